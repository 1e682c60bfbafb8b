import PyProof.Rows.All
import HandS.ForMost
import HandS.Flow
import HandS.IsInst
import HandS.TupAny
import HandS.TupMul
import HandS.Codes
import HandS.Replace
import HandS.Exc
import HandS.Wide
import HandS.Deep
import PyProof.P3Eq
import PyProof.ListStr
import PyProof.Rows.ListStrD
import HandS.RaiseMore
import HandS.Style
import PyProof.FactsAll.list_0
import PyProof.FactsAll.list_3
import PyProof.FactsAll.str_0
import PyProof.FactsAll.str_4
import PyProof.FactsAll.str_5
import PyProof.FactsAll.str_7
import HandS.Defaults
import HandS.Head0
import HandS.Head1
import HandS.Head2
import HandS.HeadEnd
import HandS.HeadHook1
import HandS.HeadHook2
import HandS.ReplaceList
import HandS.ReplaceLit
import HandS.ReplaceDef
import PyProof.StrOps
import HandS.HeadHook4
import PySem.Challenge.RW_seenorders_k44_words_of_texts
section
/-! MI1: a small machine for the Python of this package: values without places for what never changes, a heap of what does. Core Lean alone. -/
namespace MI
abbrev S := List Nat
/-- the built-in classes that are asked for -/
inductive Ty where
  | int | bool | str | list | tuple | dict | nonet
  deriving DecidableEq, Repr
/-- a value: a tuple is its items; ref: what may change (by its place in the heap); lst: a list that nobody changes (the script) -/
inductive D where
  | non | bl (b : Bool) | int (i : Int) | str (x : S) | tup (ds : List D) | lst (ds : List D) | ref (n : Nat) | fn (n : Nat) | cls (n : Nat) | ty (t : Ty)
  deriving Inhabited
/-- what changes: a list, a dict -/
inductive MO where
  | lst (ds : List D) | dct (kvs : List (D × D))
  deriving Inhabited
abbrev Hs := List MO
abbrev Env := List (Option D)
inductive Res (α : Type) where
  | ok (a : α) (h : Hs) | err (x : D) (h : Hs) | stuck
namespace Res
def bind {α β : Type} : Res α → (α → Hs → Res β) → Res β
  | ok a h, f => f a h
  | err x h, _ => err x h
  | stuck, _ => stuck
def W {α : Type} : Res α → (α → Hs → Prop) → (D → Hs → Prop) → Prop
  | ok a h, Q, _ => Q a h
  | err x h, _, E => E x h
  | stuck, _, _ => False
end Res
/-- a statement's end -/
inductive SR where
  | nx (σ : Env) (h : Hs) | ret (d : D) (h : Hs) | brk (σ : Env) (h : Hs) | cnt (σ : Env) (h : Hs) | err (x : D) (h : Hs) | stuck
/-- of an option: none is stuck -/
def lift {α : Type} (h : Hs) : Option α → Res α
  | some a => .ok a h
  | none => .stuck
/-- the greatest length -/
abbrev L : Nat := 16777216
abbrev big : Int := 18446744073709551616

/-! ### equality of data -/
mutual
def dep : D → Nat
  | .tup ds => deps ds + 1
  | .lst ds => deps ds + 1
  | _ => 0
def deps : List D → Nat
  | [] => 0
  | d :: ds => max (dep d) (deps ds)
end
mutual
def eqv : D → D → Bool
  | .non, .non => true
  | .bl a, .bl b => a == b
  | .bl a, .int j => (if a then 1 else 0) == j
  | .int i, .bl b => i == (if b then 1 else 0)
  | .int i, .int j => i == j
  | .str x, .str y => x == y
  | .tup xs, .tup ys => eqvs xs ys
  | .lst xs, .lst ys => eqvs xs ys
  | _, _ => false
def eqvs : List D → List D → Bool
  | [], [] => true
  | x :: xs, y :: ys => eqv x y && eqvs xs ys
  | _, _ => false
end
mutual
def plain : D → Bool
  | .non => true
  | .bl _ => true
  | .int _ => true
  | .str _ => true
  | .tup ds => plains ds
  | _ => false
def plains : List D → Bool
  | [] => true
  | d :: ds => plain d && plains ds
end
mutual
def exT (f : Nat → Option D) : D → Option D
  | .tup ds => (exTs f ds).map .tup
  | .ref n => f n
  | .non => some .non
  | .bl b => some (.bl b)
  | .int i => some (.int i)
  | .str x => some (.str x)
  | .lst ds => (exTs f ds).map .lst
  | _ => none
def exTs (f : Nat → Option D) : List D → Option (List D)
  | [] => some []
  | d :: ds => match exT f d, exTs f ds with
    | some e, some es => some (e :: es)
    | _, _ => none
end
def exR (h : Hs) : Nat → Nat → Option D
  | 0, _ => none
  | k + 1, n => match h[n]? with
    | some (.lst ds) => (exTs (exR h k) ds).map .lst
    | _ => none
def ex (h : Hs) (d : D) : Option D := exT (exR h 8) d
/-- a == b -/
def eqB (h : Hs) (a b : D) : Option Bool :=
  match ex h a, ex h b with
  | some x, some y => if min (dep x) (dep y) ≤ 64 then some (eqv x y) else none
  | _, _ => none

/-! ### truth, operators -/
def seqOf (h : Hs) (n : Nat) : Option (List D) :=
  match h[n]? with
  | some (.lst ds) => some ds
  | _ => none
def truth (h : Hs) : D → Option Bool
  | .non => some false
  | .bl b => some b
  | .int i => some (i != 0)
  | .str x => some (!x.isEmpty)
  | .tup ds => some (!ds.isEmpty)
  | .ref n => match h[n]? with
    | some (.lst ds) => some (!ds.isEmpty)
    | some (.dct kvs) => some (!kvs.isEmpty)
    | none => none
  | .lst ds => some (!ds.isEmpty)
  | _ => none
/-- a new thing -/
def new (o : MO) (h : Hs) : Res D := .ok (.ref h.length) (h ++ [o])
def newL (ds : List D) (h : Hs) : Res D := if ds.length ≤ L then new (.lst ds) h else .stuck
inductive BO where
  | add | sub | mul | fdiv | mod | pow
  deriving DecidableEq
def rep {α : Type} (xs : List α) (n : Nat) : List α := (List.replicate n xs).flatten
def addD (a b : D) (h : Hs) : Res D :=
  match a, b with
  | .int i, .int j => .ok (.int (i + j)) h
  | .str x, .str y => if x.length + y.length ≤ L then .ok (.str (x ++ y)) h else .stuck
  | .tup x, .tup y => if x.length + y.length ≤ L then .ok (.tup (x ++ y)) h else .stuck
  | .ref m, .ref n => match h[m]?, h[n]? with
    | some (.lst x), some (.lst y) => newL (x ++ y) h
    | _, _ => .stuck
  | _, _ => .stuck
def subD (a b : D) (h : Hs) : Res D :=
  match a, b with
  | .int i, .int j => .ok (.int (i - j)) h
  | _, _ => .stuck
def mulD (a b : D) (h : Hs) : Res D :=
  match a, b with
  | .int i, .int j => if (-big < i ∧ i < big) ∨ (-big < j ∧ j < big) then .ok (.int (i * j)) h else .stuck
  | .str x, .int n => if 0 ≤ n ∧ n < 1048576 ∧ x.length * n.toNat ≤ L then .ok (.str (rep x n.toNat)) h else .stuck
  | .tup x, .int n => if 0 ≤ n ∧ n ≤ 1000 ∧ x.length ≤ 1000 then .ok (.tup (rep x n.toNat)) h else .stuck
  | .ref m, .int n => match h[m]? with
    | some (.lst x) => if 0 ≤ n ∧ n < 1048576 ∧ x.length * n.toNat ≤ L then new (.lst (rep x n.toNat)) h else .stuck
    | _ => .stuck
  | _, _ => .stuck
def divD (a b : D) (h : Hs) : Res D :=
  match a, b with
  | .int i, .int j => if 0 < j ∧ j < 1073741824 then .ok (.int (i / j)) h else .stuck
  | _, _ => .stuck
def modD (a b : D) (h : Hs) : Res D :=
  match a, b with
  | .int i, .int j => if 0 < j then .ok (.int (i % j)) h else .stuck
  | _, _ => .stuck
def powD (a b : D) (h : Hs) : Res D :=
  match a, b with
  | .int i, .int j => if 0 ≤ j ∧ j ≤ 1000000 ∧ i.natAbs < 18446744073709551616 then .ok (.int (i ^ j.toNat)) h else .stuck
  | _, _ => .stuck
def binop (o : BO) (a b : D) (h : Hs) : Res D :=
  match o with
  | .add => addD a b h
  | .sub => subD a b h
  | .mul => mulD a b h
  | .fdiv => divD a b h
  | .mod => modD a b h
  | .pow => powD a b h
/-- x op= y: nothing that changes in its place -/
def augop (o : BO) (a b : D) (h : Hs) : Res D :=
  match o, a, b with
  | .add, .int i, .int j => .ok (.int (i + j)) h
  | .sub, .int i, .int j => .ok (.int (i - j)) h
  | .add, .str x, .str y => if x.length + y.length ≤ L then .ok (.str (x ++ y)) h else .stuck
  | _, _, _ => .stuck
inductive CO where
  | eq | ne | lt | le | gt | ge | is | isn | in_ | nin
  deriving DecidableEq
/-- x in items -/
def inItems (h : Hs) (x : D) (ds : List D) : Option Bool :=
  match exTs (exR h 8) ds, ex h x with
  | some es, some e => if min (deps es) (dep e) ≤ 64 then some (es.any fun z => eqv z e) else none
  | _, _ => none
def isIn (x c : D) (h : Hs) : Option Bool :=
  match c with
  | .tup ds => inItems h x ds
  | .ref n => match seqOf h n with
    | some ds => inItems h x ds
    | none => none
  | .lst ds => inItems h x ds
  | .str y => match x with
    | .str [c] => some (decide (c ∈ y))
    | _ => none
  | _ => none
def isNone (a : D) : Bool :=
  match a with
  | .non => true
  | _ => false
def ltI (f : Int → Int → Bool) (a b : D) : Option Bool :=
  match a, b with
  | .int i, .int j => some (f i j)
  | _, _ => none
def isD (a b : D) (neg : Bool) : Option Bool :=
  match b with
  | .non => some (if neg then !isNone a else isNone a)
  | _ => none
def cmpop (o : CO) (a b : D) (h : Hs) : Option Bool :=
  match o with
  | .eq => eqB h a b
  | .ne => (eqB h a b).map (!·)
  | .lt => ltI (fun i j => decide (i < j)) a b
  | .le => ltI (fun i j => decide (i ≤ j)) a b
  | .gt => ltI (fun i j => decide (j < i)) a b
  | .ge => ltI (fun i j => decide (j ≤ i)) a b
  | .is => isD a b false
  | .isn => isD a b true
  | .in_ => isIn a b h
  | .nin => (isIn a b h).map (!·)

/-! ### items, slices -/
/-- the place of index i among n -/
def ixN (n : Nat) (i : Int) : Option Nat :=
  if 0 ≤ i then (if i.toNat < n then some i.toNat else none)
  else if (-i).toNat ≤ n then some (n - (-i).toNat) else none
/-- a bound of a slice, among n -/
def cl (n : Nat) (i : Int) : Nat := if 0 ≤ i then min i.toNat n else n - (-i).toNat
def cut {α : Type} (xs : List α) (lo hi : Option Int) : List α :=
  let n := xs.length
  let a := match lo with
    | some i => cl n i
    | none => 0
  let b := match hi with
    | some i => cl n i
    | none => n
  (xs.take b).drop a
mutual
/-- keys of dicts: ints, texts, tuples of them -/
def flat : D → Bool
  | .int _ => true
  | .str _ => true
  | .tup ds => flats ds
  | _ => false
def flats : List D → Bool
  | [] => true
  | .int _ :: ds => flats ds
  | .str _ :: ds => flats ds
  | _ :: _ => false
end
def dget (k : D) : List (D × D) → Option D
  | [] => none
  | (q, v) :: r => if eqv q k then some v else dget k r
def dput (k v : D) (kvs : List (D × D)) : List (D × D) :=
  if kvs.any (fun p => eqv p.1 k) = true then kvs.map (fun p => if eqv p.1 k then (p.1, v) else p) else kvs ++ [(k, v)]
/-- is it a key for this dict: ints and texts alone -/
def isKey : D → Bool
  | .int _ => true
  | .str _ => true
  | _ => false
def itemAt (ds : List D) (i : Int) : Option D :=
  match ixN ds.length i with
  | some k => ds[k]?
  | none => none
def index (a i : D) (h : Hs) : Option D :=
  match a with
  | .tup ds => match i with
    | .int i => itemAt ds i
    | _ => none
  | .str x => match i with
    | .int i => match ixN x.length i with
      | some k => (x[k]?).map fun c => .str [c]
      | none => none
    | _ => none
  | .ref n => match h[n]? with
    | some (.lst ds) => (match i with
      | .int i => itemAt ds i
      | _ => none)
    | some (.dct kvs) => if isKey i then dget i kvs else none
    | none => none
  | .lst ds => match i with
    | .int i => itemAt ds i
    | _ => none
  | _ => none
/-- a slice -/
def slice (a : D) (l r : Option Int) (h : Hs) : Res D :=
  match a with
  | .str x => .ok (.str (cut x l r)) h
  | .tup x => .ok (.tup (cut x l r)) h
  | .ref n => match seqOf h n with
    | some x => new (.lst (cut x l r)) h
    | none => .stuck
  | .lst x => new (.lst (cut x l r)) h
  | _ => .stuck
/-- o[i] = v -/
def store (o i v : D) (h : Hs) : Option Hs :=
  match o with
  | .ref n => match h[n]? with
    | some (.lst ds) => (match i with
      | .int i => (match ixN ds.length i with
        | some k => some (h.set n (.lst (ds.set k v)))
        | none => none)
      | _ => none)
    | some (.dct kvs) => if isKey i = true ∧ kvs.length < L then some (h.set n (.dct (dput i v kvs))) else none
    | _ => none
  | _ => none

/-! ### built-ins, methods -/
def digs (n : Nat) : S := (Nat.toDigits 10 n).map Char.toNat
def strI (i : Int) : S := if i < 0 then 45 :: digs i.natAbs else digs i.natAbs
def tyOf (h : Hs) (d : D) : Option Ty :=
  match d with
  | .non => some .nonet
  | .bl _ => some .bool
  | .int _ => some .int
  | .str _ => some .str
  | .tup _ => some .tuple
  | .ref n => match h[n]? with
    | some (.lst _) => some .list
    | some (.dct _) => some .dict
    | none => none
  | .lst _ => some .list
  | _ => none
/-- a is b, or made of it -/
def subTy (a b : Ty) : Bool := decide (a = b) || (decide (a = .bool) && decide (b = .int))
def tyAny (h : Hs) (d : D) (ts : List Ty) : Option Bool := (tyOf h d).map fun a => ts.any (subTy a)
def chars (x : S) : List D := x.map fun c => .str [c]
def splitOn (sep : Nat) : S → List S
  | [] => [[]]
  | c :: cs => if c = sep then [] :: splitOn sep cs else match splitOn sep cs with
    | w :: ws => (c :: w) :: ws
    | [] => [[c]]
def joinS (sep : S) : List S → S
  | [] => []
  | [x] => x
  | x :: y :: r => x ++ sep ++ joinS sep (y :: r)
def strsOf : List D → Option (List S)
  | [] => some []
  | .str x :: r => (strsOf r).map (x :: ·)
  | _ :: _ => none
def truths : List D → Option (List Bool)
  | [] => some []
  | .bl b :: r => (truths r).map (b :: ·)
  | _ :: _ => none
inductive BI where
  | len | list | tuple | str | int | all | any
  deriving DecidableEq
def biLen (ds : List D) (h : Hs) : Res D :=
  match ds with
  | [.str x] => .ok (.int x.length) h
  | [.tup x] => .ok (.int x.length) h
  | [.ref n] => match h[n]? with
    | some (.lst x) => .ok (.int x.length) h
    | some (.dct x) => .ok (.int x.length) h
    | none => .stuck
  | [.lst x] => .ok (.int x.length) h
  | _ => .stuck
def biList (ds : List D) (h : Hs) : Res D :=
  match ds with
  | [.str x] => new (.lst (chars x)) h
  | [.tup x] => new (.lst x) h
  | [.ref n] => match seqOf h n with
    | some x => new (.lst x) h
    | none => .stuck
  | [.lst x] => new (.lst x) h
  | _ => .stuck
def biTuple (ds : List D) (h : Hs) : Res D :=
  match ds with
  | [.tup x] => .ok (.tup x) h
  | [.ref n] => match seqOf h n with
    | some x => .ok (.tup x) h
    | none => .stuck
  | [.lst x] => .ok (.tup x) h
  | _ => .stuck
def biStr (ds : List D) (h : Hs) : Res D :=
  match ds with
  | [.int i] => if i.natAbs < 10 ^ 100 then .ok (.str (strI i)) h else .stuck
  | [.str x] => .ok (.str x) h
  | _ => .stuck
def biInt (ds : List D) (h : Hs) : Res D :=
  match ds with
  | [.int i] => .ok (.int i) h
  | [.bl k] => .ok (.int (if k then 1 else 0)) h
  | _ => .stuck
def biAll (ds : List D) (h : Hs) : Res D :=
  match ds with
  | [.ref n] => match seqOf h n with
    | some x => (match truths x with
      | some bs => .ok (.bl (bs.all id)) h
      | none => .stuck)
    | none => .stuck
  | _ => .stuck
def biAny (ds : List D) (h : Hs) : Res D :=
  match ds with
  | [.ref n] => match seqOf h n with
    | some x => (match truths x with
      | some bs => .ok (.bl (bs.any id)) h
      | none => .stuck)
    | none => .stuck
  | _ => .stuck
def builtin (b : BI) (ds : List D) (h : Hs) : Res D :=
  match b with
  | .len => biLen ds h
  | .list => biList ds h
  | .tuple => biTuple ds h
  | .str => biStr ds h
  | .int => biInt ds h
  | .all => biAll ds h
  | .any => biAny ds h
inductive MT where
  | append | extend | pop | split | join | isalnum
  deriving DecidableEq
/-- letters and figures of ASCII -/
def alnum (c : Nat) : Bool := (48 ≤ c && c ≤ 57) || (65 ≤ c && c ≤ 90) || (97 ≤ c && c ≤ 122)
def mtAppend (o : D) (ds : List D) (h : Hs) : Res D :=
  match o, ds with
  | .ref n, [d] => match h[n]? with
    | some (.lst x) => if x.length < L then .ok .non (h.set n (.lst (x ++ [d]))) else .stuck
    | _ => .stuck
  | _, _ => .stuck
def mtExtend (o : D) (ds : List D) (h : Hs) : Res D :=
  match o, ds with
  | .ref n, [.ref m] => match h[n]?, h[m]? with
    | some (.lst x), some (.lst y) => if x.length + y.length ≤ L then .ok .non (h.set n (.lst (x ++ y))) else .stuck
    | _, _ => .stuck
  | _, _ => .stuck
def mtPop (o : D) (ds : List D) (h : Hs) : Res D :=
  match o, ds with
  | .ref n, [] => match h[n]? with
    | some (.lst x) => (match x[x.length - 1]? with
      | some d => .ok d (h.set n (.lst x.dropLast))
      | none => .stuck)
    | _ => .stuck
  | .ref n, [.int i] => match h[n]? with
    | some (.lst x) => (match ixN x.length i with
      | some k => (match x[k]? with
        | some d => .ok d (h.set n (.lst (x.eraseIdx k)))
        | none => .stuck)
      | none => .stuck)
    | _ => .stuck
  | _, _ => .stuck
def mtSplit (o : D) (ds : List D) (h : Hs) : Res D :=
  match o, ds with
  | .str x, [.str [c]] => if x.length + 2 ≤ L ∧ c < 256 then new (.lst ((splitOn c x).map .str)) h else .stuck
  | _, _ => .stuck
def joinIf (x : S) (ds : List D) (h : Hs) : Res D :=
  match strsOf ds with
  | some ys => if (ys.map (·.length)).sum + ys.length * x.length ≤ L then .ok (.str (joinS x ys)) h else .stuck
  | none => .stuck
def mtJoin (o : D) (ds : List D) (h : Hs) : Res D :=
  match o, ds with
  | .str x, [.ref n] => match seqOf h n with
    | some ds => joinIf x ds h
    | none => .stuck
  | .str x, [.tup ds] => joinIf x ds h
  | _, _ => .stuck
def mtIsalnum (o : D) (ds : List D) (h : Hs) : Res D :=
  match o, ds with
  | .str x, [] => if x.all (· < 128) then .ok (.bl (!x.isEmpty && x.all alnum)) h else .stuck
  | _, _ => .stuck
/-- whose method it is -/
def mtTy : MT → Ty
  | .append => .list
  | .extend => .list
  | .pop => .list
  | .split => .str
  | .join => .str
  | .isalnum => .str
def recv (m : MT) (o : D) (h : Hs) : Bool := decide (tyOf h o = some (mtTy m))
def method (m : MT) (o : D) (ds : List D) (h : Hs) : Res D :=
  match m with
  | .append => mtAppend o ds h
  | .extend => mtExtend o ds h
  | .pop => mtPop o ds h
  | .split => mtSplit o ds h
  | .join => mtJoin o ds h
  | .isalnum => mtIsalnum o ds h

/-! ### the text -/
mutual
inductive IE where
  | c (d : D) | v (i : Nat)
  | tup (es : IEs) | lst (es : IEs) | dct (kvs : IKV)
  | bin (o : BO) (a b : IE) | cmp (o : CO) (a b : IE) | chn (o p : CO) (a b c : IE)
  | and (a b : IE) | or (a b : IE) | not (a : IE) | neg (a : IE) | ite (c a b : IE)
  | ix (a i : IE) | sl (a : IE) (lo hi : IO)
  | call (f : Nat) (es : IEs) | bi (b : BI) (es : IEs) | mt (m : MT) (o : IE) (es : IEs) | isi (a : IE) (ts : List Ty)
  | lc (own : List Nat) (e : IE) (t : IT) (it : II) (cs : IEs)
inductive IEs where
  | nil | cons (e : IE) (es : IEs)
inductive IKV where
  | nil | cons (k v : IE) (r : IKV)
inductive IO where
  | none | some (e : IE)
/-- what a for walks -/
inductive II where
  | seq (e : IE) | rng1 (a : IE) | rng2 (a b : IE)
/-- a target -/
inductive IT where
  | nm (i : Nat) | tp (ts : ITs) | sub (o i : IE)
inductive ITs where
  | nil | cons (t : IT) (ts : ITs)
end
mutual
inductive IS where
  | ex (e : IE) | asg (t : IT) (e : IE) | aug (i : Nat) (o : BO) (e : IE)
  | iff (c : IE) (a b : ISs) | whl (c : IE) (b : ISs) | for_ (t : IT) (it : II) (b : ISs)
  | ret (e : IE) | retN | brk | cnt | pass
inductive ISs where
  | nil | cons (s : IS) (ss : ISs)
end
structure Fn where
  np : Nat
  ns : Nat
  body : ISs

/-! ### how it runs -/
structure Orc where
  call : Nat → List D → Hs → Res D
  it : (Env → Hs → Res Bool) → (Env → Hs → SR) → Env → Hs → SR
/-- what is walked: items that stand, or a list of the heap by its place -/
inductive Src where
  | vals (ds : List D) | dyn (n : Nat)
/-- the item at a turn, in the heap as it is then -/
def srcAt (s : Src) (h : Hs) (i : Nat) : Option D :=
  match s with
  | .vals ds => ds[i]?
  | .dyn n => match seqOf h n with
    | some ds => ds[i]?
    | none => none
def srcEnd (s : Src) (h : Hs) (i : Nat) : Bool :=
  match s with
  | .vals ds => decide (ds.length ≤ i)
  | .dyn n => match seqOf h n with
    | some ds => decide (ds.length ≤ i)
    | none => false
def srcLen (s : Src) (h : Hs) : Nat :=
  match s with
  | .vals ds => ds.length
  | .dyn n => match seqOf h n with
    | some ds => ds.length
    | none => 0
/-- a comprehension's turns: f tells of an item what is kept -/
def lcL (f : D → Hs → Res (Option D)) (s : Src) : Nat → Nat → List D → Hs → Res (List D)
  | 0, i, acc, h => if srcEnd s h i then .ok acc h else .stuck
  | k + 1, i, acc, h => match srcAt s h i with
    | some d => (f d h).bind fun r h => match r with
      | some e => if acc.length < L then lcL f s k (i + 1) (acc ++ [e]) h else .stuck
      | none => lcL f s k (i + 1) acc h
    | none => .stuck
def lcS (f : D → Hs → Res (Option D)) (s : Src) (h : Hs) : Res (List D) := lcL f s (srcLen s h) 0 [] h
/-- a for's turns -/
def forL (f : D → Env → Hs → SR) (s : Src) : Nat → Nat → Env → Hs → SR
  | 0, i, σ, h => if srcEnd s h i then .nx σ h else .stuck
  | k + 1, i, σ, h => match srcAt s h i with
    | some d => (match f d σ h with
      | .nx σ h => forL f s k (i + 1) σ h
      | .cnt σ h => forL f s k (i + 1) σ h
      | .brk σ h => .nx σ h
      | .ret d h => .ret d h
      | .err x h => .err x h
      | .stuck => .stuck)
    | none => .stuck
def forS (f : D → Env → Hs → SR) (s : Src) (σ : Env) (h : Hs) : SR := forL f s (srcLen s h) 0 σ h
/-- a comprehension's own slots, forgotten -/
def wipeE (σ : Env) : List Nat → Env
  | [] => σ
  | v :: vs => (wipeE σ vs).set v none
/-- a while's turns, m at most -/
def iter (c : Env → Hs → Res Bool) (b : Env → Hs → SR) : Nat → Env → Hs → SR
  | 0, _, _ => .stuck
  | m + 1, σ, h => match c σ h with
    | .ok true h => (match b σ h with
      | .nx σ h => iter c b m σ h
      | .cnt σ h => iter c b m σ h
      | .brk σ h => .nx σ h
      | .ret d h => .ret d h
      | .err x h => .err x h
      | .stuck => .stuck)
    | .ok false h => .nx σ h
    | .err x h => .err x h
    | .stuck => .stuck
def rngV (lo hi : Int) : List D := (List.range (hi - lo).toNat).map fun (k : Nat) => D.int (lo + k)
def rangeS (a b : D) : Option Src :=
  match a, b with
  | .int a, .int b => if -1073741824 < a ∧ a < 1073741824 ∧ -1073741824 < b ∧ b < 1073741824 then some (.vals (rngV a b)) else none
  | _, _ => none
def srcOf (d : D) (h : Hs) : Option Src :=
  match d with
  | .tup ds => some (.vals ds)
  | .str x => some (.vals (chars x))
  | .ref n => match seqOf h n with
    | some _ => some (.dyn n)
    | none => none
  | .lst ds => some (.vals ds)
  | _ => none
mutual
/-- the slots that a target stores -/
def slots : IT → List Nat
  | .nm i => [i]
  | .tp ts => slotss ts
  | .sub _ _ => []
def slotss : ITs → List Nat
  | .nil => []
  | .cons t ts => slots t ++ slotss ts
end
def tsLen : ITs → Nat
  | .nil => 0
  | .cons _ ts => tsLen ts + 1
section
variable (κ : Orc)
mutual
def evE : IE → Env → Hs → Res D
  | .c d, _, h => .ok d h
  | .v i, σ, h => match σ[i]? with
    | some (some d) => .ok d h
    | _ => .stuck
  | .tup es, σ, h => (evEs es σ h).bind fun ds h => if ds.length ≤ L then .ok (.tup ds) h else .stuck
  | .lst es, σ, h => (evEs es σ h).bind fun ds h => newL ds h
  | .dct ks, σ, h => (evKV ks [] σ h).bind fun kvs h => new (.dct kvs) h
  | .bin o a b, σ, h => (evE a σ h).bind fun x h => (evE b σ h).bind fun y h => binop o x y h
  | .cmp o a b, σ, h => (evE a σ h).bind fun x h => (evE b σ h).bind fun y h => lift h ((cmpop o x y h).map .bl)
  | .chn o p a b c, σ, h => (evE a σ h).bind fun x h => (evE b σ h).bind fun y h => match cmpop o x y h with
    | some true => (evE c σ h).bind fun z h => lift h ((cmpop p y z h).map .bl)
    | some false => .ok (.bl false) h
    | none => .stuck
  | .and a b, σ, h => (evE a σ h).bind fun x h => match truth h x with
    | some true => evE b σ h
    | some false => .ok x h
    | none => .stuck
  | .or a b, σ, h => (evE a σ h).bind fun x h => match truth h x with
    | some true => .ok x h
    | some false => evE b σ h
    | none => .stuck
  | .not a, σ, h => (evE a σ h).bind fun x h => lift h ((truth h x).map fun b => .bl (!b))
  | .neg a, σ, h => (evE a σ h).bind fun x h => match x with
    | .int i => .ok (.int (-i)) h
    | _ => .stuck
  | .ite c a b, σ, h => (evE c σ h).bind fun x h => match truth h x with
    | some true => evE a σ h
    | some false => evE b σ h
    | none => .stuck
  | .ix a i, σ, h => (evE a σ h).bind fun x h => (evE i σ h).bind fun y h => lift h (index x y h)
  | .sl a lo hi, σ, h => (evE a σ h).bind fun x h => (evO lo σ h).bind fun l h => (evO hi σ h).bind fun r h => slice x l r h
  | .call f es, σ, h => (evEs es σ h).bind fun ds h => κ.call f ds h
  | .bi b es, σ, h => (evEs es σ h).bind fun ds h => builtin b ds h
  | .mt m o es, σ, h => (evE o σ h).bind fun x h => if recv m x h then (evEs es σ h).bind fun ds h => method m x ds h else .stuck
  | .isi a ts, σ, h => (evE a σ h).bind fun x h => lift h ((tyAny h x ts).map .bl)
  | .lc own e t it cs, σ, h => (evI it σ h).bind fun s h =>
    (lcS (fun d h => (evT t d (wipeE σ own) h).bind fun σ h => (evC cs σ h).bind fun b h => if b then (evE e σ h).bind fun x h => .ok (some x) h else .ok none h) s h).bind fun ds h => new (.lst ds) h
def evEs : IEs → Env → Hs → Res (List D)
  | .nil, _, h => .ok [] h
  | .cons e es, σ, h => (evE e σ h).bind fun d h => (evEs es σ h).bind fun ds h => .ok (d :: ds) h
/-- a comprehension's tests -/
def evC : IEs → Env → Hs → Res Bool
  | .nil, _, h => .ok true h
  | .cons e es, σ, h => (evE e σ h).bind fun d h => match truth h d with
    | some true => evC es σ h
    | some false => .ok false h
    | none => .stuck
/-- a display's pairs -/
def evKV : IKV → List (D × D) → Env → Hs → Res (List (D × D))
  | .nil, acc, _, h => .ok acc h
  | .cons k v r, acc, σ, h => (evE k σ h).bind fun x h => (evE v σ h).bind fun y h => if isKey x then evKV r (dput x y acc) σ h else .stuck
def evO : IO → Env → Hs → Res (Option Int)
  | .none, _, h => .ok none h
  | .some e, σ, h => (evE e σ h).bind fun d h => match d with
    | .int i => .ok (some i) h
    | _ => .stuck
def evI : II → Env → Hs → Res Src
  | .seq e, σ, h => (evE e σ h).bind fun d h => lift h (srcOf d h)
  | .rng1 a, σ, h => (evE a σ h).bind fun x h => lift h (rangeS (.int 0) x)
  | .rng2 a b, σ, h => (evE a σ h).bind fun x h => (evE b σ h).bind fun y h => lift h (rangeS x y)
/-- a value goes to a target -/
def evT : IT → D → Env → Hs → Res Env
  | .nm i, d, σ, h => .ok (σ.set i (some d)) h
  | .tp ts, d, σ, h => match d with
    | .tup ds => if ds.length = tsLen ts then evTs ts ds σ h else .stuck
    | _ => .stuck
  | .sub o i, d, σ, h => (evE o σ h).bind fun x h => (evE i σ h).bind fun y h => match store x y d h with
    | some h => .ok σ h
    | none => .stuck
def evTs : ITs → List D → Env → Hs → Res Env
  | .nil, [], σ, h => .ok σ h
  | .cons t ts, d :: ds, σ, h => (evT t d σ h).bind fun σ h => evTs ts ds σ h
  | _, _, _, _ => .stuck
end
def SR.of {α : Type} (r : Res α) (f : α → Hs → SR) : SR :=
  match r with
  | .ok a h => f a h
  | .err x h => .err x h
  | .stuck => .stuck
def evB (c : IE) (σ : Env) (h : Hs) : Res Bool := (evE κ c σ h).bind fun d h => lift h (truth h d)
mutual
def exS : IS → Env → Hs → SR
  | .ex e, σ, h => SR.of (evE κ e σ h) fun _ h => .nx σ h
  | .asg t e, σ, h => SR.of (evE κ e σ h) fun d h => SR.of (evT κ t d σ h) fun σ h => .nx σ h
  | .aug i o e, σ, h => match σ[i]? with
    | some (some x) => SR.of (evE κ e σ h) fun y h => SR.of (augop o x y h) fun z h => .nx (σ.set i (some z)) h
    | _ => .stuck
  | .iff c a b, σ, h => SR.of (evB κ c σ h) fun k h => if k then exSs a σ h else exSs b σ h
  | .whl c b, σ, h => κ.it (evB κ c) (exSs b) σ h
  | .for_ t it b, σ, h => SR.of (evI κ it σ h) fun s h => forS (fun d σ h => SR.of (evT κ t d σ h) fun σ h => exSs b σ h) s σ h
  | .ret e, σ, h => SR.of (evE κ e σ h) fun d h => .ret d h
  | .retN, _, h => .ret .non h
  | .brk, σ, h => .brk σ h
  | .cnt, σ, h => .cnt σ h
  | .pass, σ, h => .nx σ h
def exSs : ISs → Env → Hs → SR
  | .nil, σ, h => .nx σ h
  | .cons s ss, σ, h => match exS s σ h with
    | .nx σ h => exSs ss σ h
    | .ret d h => .ret d h
    | .brk σ h => .brk σ h
    | .cnt σ h => .cnt σ h
    | .err x h => .err x h
    | .stuck => .stuck
end
def callFn (f : Fn) (ds : List D) (h : Hs) : Res D :=
  if ds.length = f.np then
    match exSs κ f.body (ds.map some ++ List.replicate (f.ns - f.np) none) h with
    | .nx _ h => .ok .non h
    | .ret d h => .ok d h
    | .err x h => .err x h
    | _ => .stuck
  else .stuck
end
/-- a function: its body, or what it does -/
inductive FnP where
  | code (f : Fn) | prim (ar : Nat) (g : List D → Hs → Res D)
abbrev Prg := List FnP
/-- while without a bound: what it comes to in some number of turns -/
noncomputable def itω (c : Env → Hs → Res Bool) (b : Env → Hs → SR) (σ : Env) (h : Hs) : SR :=
  open Classical in
  if e : ∃ m, iter c b m σ h ≠ .stuck then iter c b e.choose σ h else .stuck
/-- the calls, n deep at most -/
noncomputable def run (P : Prg) : Nat → Nat → List D → Hs → Res D
  | 0, _, _, _ => .stuck
  | n + 1, f, ds, h => match P[f]? with
    | some (.code fn) => callFn ⟨run P n, itω⟩ fn ds h
    | some (.prim ar g) => if ds.length = ar then g ds h else .stuck
    | none => .stuck
end MI
end

section
set_option maxRecDepth 100000
/-! Q_k44: the functions of the law, in MI1 (printed from the compile function). -/
namespace HD
open MI

def f0 : ISs := (.cons (.asg (.nm 3) (.v 1)) (.cons (.whl (.and (.cmp .lt (.v 3) (.bi .len (.cons (.v 0) .nil))) (.cmp .in_ (.ix (.v 0) (.v 3)) (.v 2))) (.cons (.aug 3 .add (.c (.int (1)))) .nil)) (.cons (.ret (.v 3)) .nil)))
def f1 : ISs := (.cons (.asg (.nm 2) (.sl (.v 0) (.some (.v 1)) (.some (.call 0 (.cons (.v 0) (.cons (.v 1) (.cons (.c (.str [97, 98, 99, 100, 101, 102, 103, 104, 105, 106, 107, 108, 109, 110, 111, 112, 113, 114, 115, 116, 117, 118, 119, 120, 121, 122, 65, 66, 67, 68, 69, 70, 71, 72, 73, 74, 75, 76, 77, 78, 79, 80, 81, 82, 83, 84, 85, 86, 87, 88, 89, 90, 48, 49, 50, 51, 52, 53, 54, 55, 56, 57, 95])) .nil))))))) (.cons (.iff (.cmp .gt (.bi .len (.cons (.v 2) .nil)) (.c (.int (12)))) (.cons (.ret (.tup (.cons (.c (.str [98, 97, 100])) (.cons (.c (.str [119, 111, 114, 100])) .nil)))) .nil) .nil) (.cons (.ret (.tup (.cons (.ite (.cmp .in_ (.v 2) (.c (.tup [(.str [97, 110, 100]), (.str [97, 115, 107]), (.str [102, 101, 110, 99, 101]), (.str [112, 108, 97, 99, 101]), (.str [114, 97]), (.str [115, 99]), (.str [115, 119, 97, 112]), (.str [116, 104, 114, 101, 97, 100]), (.str [116, 115, 111])]))) (.c (.str [111, 119, 110])) (.c (.str [110, 97, 109, 101]))) (.cons (.v 2) .nil)))) .nil)))
def f2 : ISs := (.cons (.iff (.cmp .in_ (.ix (.v 0) (.v 1)) (.c (.str [97, 98, 99, 100, 101, 102, 103, 104, 105, 106, 107, 108, 109, 110, 111, 112, 113, 114, 115, 116, 117, 118, 119, 120, 121, 122, 65, 66, 67, 68, 69, 70, 71, 72, 73, 74, 75, 76, 77, 78, 79, 80, 81, 82, 83, 84, 85, 86, 87, 88, 89, 90]))) (.cons (.ret (.call 1 (.cons (.v 0) (.cons (.v 1) .nil)))) .nil) .nil) (.cons (.iff (.cmp .in_ (.ix (.v 0) (.v 1)) (.c (.str [48, 49, 50, 51, 52, 53, 54, 55, 56, 57]))) (.cons (.asg (.nm 2) (.sl (.v 0) (.some (.v 1)) (.some (.call 0 (.cons (.v 0) (.cons (.v 1) (.cons (.c (.str [48, 49, 50, 51, 52, 53, 54, 55, 56, 57])) .nil))))))) (.cons (.ret (.tup (.cons (.ite (.cmp .eq (.bi .len (.cons (.v 2) .nil)) (.c (.int (1)))) (.c (.str [110, 117, 109, 98, 101, 114])) (.c (.str [98, 97, 100]))) (.cons (.ite (.cmp .eq (.bi .len (.cons (.v 2) .nil)) (.c (.int (1)))) (.v 2) (.c (.str [119, 111, 114, 100]))) .nil)))) .nil)) .nil) (.cons (.ret (.ite (.cmp .in_ (.ix (.v 0) (.v 1)) (.c (.str [61, 59, 58, 44, 46, 123, 125]))) (.tup (.cons (.c (.str [115, 105, 103, 110])) (.cons (.ix (.v 0) (.v 1)) .nil))) (.tup (.cons (.c (.str [98, 97, 100])) (.cons (.c (.str [115, 105, 103, 110])) .nil))))) .nil)))
def f3 : ISs := (.cons (.asg (.nm 1) (.lst .nil)) (.cons (.asg (.nm 2) (.mt .split (.v 0) (.cons (.c (.str [10])) .nil))) (.cons (.for_ (.nm 3) (.rng1 (.bi .len (.cons (.v 2) .nil))) (.cons (.asg (.nm 4) (.ix (.v 2) (.v 3))) (.cons (.asg (.nm 5) (.c (.int (0)))) (.cons (.whl (.and (.cmp .lt (.v 5) (.bi .len (.cons (.v 4) .nil))) (.cmp .ne (.ix (.v 4) (.v 5)) (.c (.str [35])))) (.cons (.iff (.cmp .eq (.ix (.v 4) (.v 5)) (.c (.str [32]))) (.cons (.aug 5 .add (.c (.int (1)))) (.cons .cnt .nil)) .nil) (.cons (.asg (.tp (.cons (.nm 6) (.cons (.nm 7) .nil))) (.call 2 (.cons (.v 4) (.cons (.v 5) .nil)))) (.cons (.ex (.mt .append (.v 1) (.cons (.tup (.cons (.v 6) (.cons (.v 7) (.cons (.v 3) (.cons (.v 5) .nil))))) .nil))) (.cons (.iff (.cmp .eq (.v 6) (.c (.str [98, 97, 100]))) (.cons (.ret (.v 1)) .nil) .nil) (.cons (.aug 5 .add (.bi .len (.cons (.v 7) .nil))) .nil)))))) .nil)))) (.cons (.ex (.mt .append (.v 1) (.cons (.tup (.cons (.c (.str [101, 110, 100])) (.cons (.c (.str [])) (.cons (.bin .sub (.bi .len (.cons (.v 2) .nil)) (.c (.int (1)))) (.cons (.bi .len (.cons (.ix (.v 2) (.neg (.c (.int (1))))) .nil)) .nil))))) .nil))) (.cons (.ret (.v 1)) .nil)))))
def f4 : ISs := (.cons (.iff (.not (.isi (.v 0) [.str])) (.cons (.ret (.tup (.cons (.tup (.cons (.c (.str [98, 97, 100])) (.cons (.c (.str [116, 101, 120, 116])) (.cons (.c (.int (0))) (.cons (.c (.int (0))) .nil))))) .nil))) .nil) .nil) (.cons (.ret (.bi .tuple (.cons (.call 3 (.cons (.v 0) .nil)) .nil))) .nil))
def f5 : ISs := (.cons (.asg (.nm 1) (.c (.int (0)))) (.cons (.for_ (.nm 2) (.seq (.v 0)) (.cons (.asg (.nm 1) (.bin .mod (.bi .int (.cons (.bin .add (.bin .mul (.v 1) (.c (.int (59)))) (.v 2)) .nil)) (.c (.int (1000000009))))) .nil)) (.cons (.ret (.dct (.cons (.c (.str [99, 101, 108, 108, 115])) (.bi .list (.cons (.v 0) .nil)) (.cons (.c (.str [97, 116])) (.c (.int (0))) (.cons (.c (.str [100, 105, 103, 105, 116, 115])) (.c (.int (0))) (.cons (.c (.str [99, 111, 117, 110, 116])) (.c (.int (0))) (.cons (.c (.str [102, 111, 108, 100])) (.v 1) .nil))))))) .nil)))
def f6 : ISs := (.cons (.asg (.sub (.v 0) (.c (.str [99, 111, 117, 110, 116]))) (.bin .add (.ix (.v 0) (.c (.str [99, 111, 117, 110, 116]))) (.c (.int (1))))) (.cons (.iff (.and (.cmp .eq (.ix (.v 0) (.c (.str [100, 105, 103, 105, 116, 115]))) (.c (.int (0)))) (.cmp .lt (.ix (.v 0) (.c (.str [97, 116]))) (.bi .len (.cons (.ix (.v 0) (.c (.str [99, 101, 108, 108, 115]))) .nil)))) (.cons (.asg (.nm 3) (.ix (.ix (.v 0) (.c (.str [99, 101, 108, 108, 115]))) (.ix (.v 0) (.c (.str [97, 116]))))) (.cons (.asg (.sub (.v 0) (.c (.str [97, 116]))) (.bin .add (.ix (.v 0) (.c (.str [97, 116]))) (.c (.int (1))))) (.cons (.iff (.cmp .ge (.v 3) (.bin .pow (.c (.int (10))) (.c (.int (18))))) (.cons (.asg (.sub (.v 0) (.c (.str [100, 105, 103, 105, 116, 115]))) (.bin .sub (.v 3) (.bin .pow (.c (.int (10))) (.c (.int (18)))))) .nil) (.cons (.asg (.sub (.v 0) (.c (.str [102, 111, 108, 100]))) (.bin .mod (.bi .int (.cons (.bin .add (.bin .mul (.ix (.v 0) (.c (.str [102, 111, 108, 100]))) (.c (.int (48271)))) (.v 3)) .nil)) (.c (.int (2147483563))))) .nil)) .nil))) .nil) (.cons (.iff (.cmp .gt (.ix (.v 0) (.c (.str [100, 105, 103, 105, 116, 115]))) (.c (.int (0)))) (.cons (.asg (.nm 4) (.bin .mod (.bi .int (.cons (.ix (.v 0) (.c (.str [100, 105, 103, 105, 116, 115]))) .nil)) (.v 1))) (.cons (.asg (.sub (.v 0) (.c (.str [100, 105, 103, 105, 116, 115]))) (.bin .fdiv (.ix (.v 0) (.c (.str [100, 105, 103, 105, 116, 115]))) (.v 1))) (.cons (.ret (.v 4)) .nil))) .nil) (.cons (.asg (.nm 2) (.bin .add (.bin .add (.ix (.v 0) (.c (.str [102, 111, 108, 100]))) (.bin .mul (.ix (.v 0) (.c (.str [99, 111, 117, 110, 116]))) (.c (.int (8513))))) (.c (.int (61))))) (.cons (.ret (.bin .mod (.bin .fdiv (.bi .int (.cons (.bin .mod (.bin .pow (.v 2) (.c (.int (19)))) (.c (.int (2305843009213693951)))) .nil)) (.c (.int (256)))) (.v 1))) .nil)))))
def f7 : ISs := (.cons (.ret (.ix (.v 1) (.call 6 (.cons (.v 0) (.cons (.bi .len (.cons (.v 1) .nil)) .nil))))) .nil)
def f8 : ISs := (.cons (.asg (.tp (.cons (.nm 3) (.cons (.nm 4) .nil))) (.tup (.cons (.bi .list (.cons (.v 1) .nil)) (.cons (.lst .nil) .nil)))) (.cons (.for_ (.nm 2) (.rng1 (.bi .len (.cons (.v 1) .nil))) (.cons (.ex (.mt .append (.v 4) (.cons (.mt .pop (.v 3) (.cons (.call 6 (.cons (.v 0) (.cons (.bi .len (.cons (.v 3) .nil)) .nil))) .nil)) .nil))) .nil)) (.cons (.ret (.v 4)) .nil)))
def f9 : ISs := (.cons (.ret (.and (.isi (.v 0) [.int]) (.not (.isi (.v 0) [.bool])))) .nil)
def f10 : ISs := (.cons (.ret (.ite (.and (.cmp .ne (.v 1) (.lst .nil)) (.cmp .eq (.call 6 (.cons (.v 0) (.cons (.c (.int (3))) .nil))) (.c (.int (0))))) (.tup (.cons (.c (.str [114, 101, 103])) (.cons (.call 7 (.cons (.v 0) (.cons (.v 1) .nil))) .nil))) (.tup (.cons (.c (.str [110, 117, 109])) (.cons (.call 7 (.cons (.v 0) (.cons (.lst (.cons (.c (.int (1))) (.cons (.c (.int (1))) (.cons (.c (.int (2))) (.cons (.c (.int (0))) (.cons (.c (.int (3))) (.cons (.c (.int (9))) .nil))))))) .nil))) .nil))))) .nil)
def f11 : ISs := (.cons (.asg (.tp (.cons (.nm 4) (.cons (.nm 5) .nil))) (.tup (.cons (.call 6 (.cons (.v 0) (.cons (.c (.int (9))) .nil))) (.cons (.call 7 (.cons (.v 0) (.cons (.v 1) .nil))) .nil)))) (.cons (.iff (.or (.cmp .lt (.v 4) (.c (.int (3)))) (.and (.cmp .eq (.v 3) (.lst .nil)) (.cmp .lt (.v 4) (.c (.int (8)))))) (.cons (.ret (.tup (.cons (.c (.str [115, 116, 111, 114, 101])) (.cons (.v 5) (.cons (.call 10 (.cons (.v 0) (.cons (.v 2) .nil))) .nil))))) .nil) .nil) (.cons (.iff (.cmp .lt (.v 4) (.c (.int (7)))) (.cons (.ret (.tup (.cons (.c (.str [108, 111, 97, 100])) (.cons (.ix (.v 3) (.c (.int (0)))) (.cons (.v 5) .nil))))) .nil) .nil) (.cons (.ret (.ite (.and (.cmp .eq (.v 4) (.c (.int (7)))) (.cmp .ne (.v 3) (.lst .nil))) (.tup (.cons (.c (.str [115, 119, 97, 112])) (.cons (.ix (.v 3) (.c (.int (0)))) (.cons (.v 5) (.cons (.call 10 (.cons (.v 0) (.cons (.v 2) .nil))) .nil))))) (.tup (.cons (.c (.str [102, 101, 110, 99, 101])) .nil)))) .nil))))
def f12 : ISs := (.cons (.asg (.tp (.cons (.nm 4) (.cons (.nm 5) (.cons (.nm 6) .nil)))) (.tup (.cons (.call 8 (.cons (.v 0) (.cons (.lst (.cons (.c (.str [114])) (.cons (.c (.str [115])) (.cons (.c (.str [113])) (.cons (.c (.str [97, 49])) (.cons (.c (.str [114, 48])) .nil)))))) .nil))) (.cons (.lst .nil) (.cons (.tup .nil) .nil))))) (.cons (.for_ (.nm 3) (.rng1 (.v 2)) (.cons (.asg (.nm 7) (.call 11 (.cons (.v 0) (.cons (.v 1) (.cons (.v 5) (.cons (.v 4) .nil)))))) (.cons (.asg (.nm 6) (.bin .add (.v 6) (.tup (.cons (.v 7) .nil)))) (.cons (.iff (.cmp .in_ (.ix (.v 7) (.c (.int (0)))) (.tup (.cons (.c (.str [108, 111, 97, 100])) (.cons (.c (.str [115, 119, 97, 112])) .nil)))) (.cons (.asg (.tp (.cons (.nm 5) (.cons (.nm 4) .nil))) (.tup (.cons (.bin .add (.v 5) (.lst (.cons (.ix (.v 7) (.c (.int (1)))) .nil))) (.cons (.sl (.v 4) (.some (.c (.int (1)))) .none) .nil)))) .nil) .nil) .nil)))) (.cons (.ret (.v 6)) .nil)))
def f13 : ISs := (.cons (.ret (.lc [1] (.ix (.v 1) (.c (.int (1)))) (.nm 1) (.seq (.v 0)) (.cons (.cmp .in_ (.ix (.v 1) (.c (.int (0)))) (.tup (.cons (.c (.str [108, 111, 97, 100])) (.cons (.c (.str [115, 119, 97, 112])) .nil)))) .nil))) .nil)
def f14 : ISs := (.cons (.asg (.nm 4) (.lc [7] (.tup (.cons (.c (.str [112, 108, 97, 99, 101])) (.cons (.v 7) .nil))) (.nm 7) (.seq (.v 1)) .nil)) (.cons (.for_ (.tp (.cons (.nm 5) (.cons (.nm 6) .nil))) (.seq (.v 2)) (.cons (.asg (.nm 4) (.bin .add (.v 4) (.lc [8] (.tup (.cons (.c (.str [114, 101, 103])) (.cons (.v 5) (.cons (.v 8) .nil)))) (.nm 8) (.seq (.call 13 (.cons (.v 6) .nil))) .nil))) .nil)) (.cons (.ret (.ite (.cmp .ne (.v 4) (.lst .nil)) (.bi .tuple (.cons (.lc [9] (.bin .add (.call 7 (.cons (.v 0) (.cons (.v 4) .nil))) (.tup (.cons (.call 7 (.cons (.v 0) (.cons (.lst (.cons (.c (.int (0))) (.cons (.c (.int (1))) (.cons (.c (.int (1))) (.cons (.c (.int (2))) (.cons (.c (.int (3))) (.cons (.c (.int (9))) .nil))))))) .nil))) .nil))) (.nm 9) (.rng1 (.v 3)) .nil) .nil)) (.tup .nil))) .nil)))
def f15 : ISs := (.cons (.asg (.tp (.cons (.nm 5) (.cons (.nm 6) .nil))) (.tup (.cons (.call 8 (.cons (.v 0) (.cons (.lst (.cons (.c (.str [97])) (.cons (.c (.str [98])) (.cons (.c (.str [120])) (.cons (.c (.str [97, 115, 107, 49])) (.cons (.c (.str [116])) (.cons (.c (.str [114])) .nil))))))) .nil))) (.cons (.tup .nil) .nil)))) (.cons (.for_ (.nm 4) (.rng1 (.v 3)) (.cons (.asg (.nm 7) (.call 14 (.cons (.v 0) (.cons (.v 1) (.cons (.v 2) (.cons (.call 7 (.cons (.v 0) (.cons (.lst (.cons (.c (.int (1))) (.cons (.c (.int (2))) (.cons (.c (.int (2))) (.cons (.c (.int (3))) .nil))))) .nil))) .nil)))))) (.cons (.asg (.nm 6) (.bin .add (.v 6) (.ite (.cmp .ne (.v 7) (.tup .nil)) (.tup (.cons (.tup (.cons (.ix (.v 5) (.v 4)) (.cons (.call 7 (.cons (.v 0) (.cons (.lst (.cons (.c (.str [115, 99])) (.cons (.c (.str [116, 115, 111])) (.cons (.c (.str [114, 97])) .nil)))) .nil))) (.cons (.v 7) .nil)))) .nil)) (.tup .nil)))) .nil))) (.cons (.ret (.v 6)) .nil)))
def f16 : ISs := (.cons (.asg (.nm 1) (.bi .tuple (.cons (.sl (.call 8 (.cons (.v 0) (.cons (.lst (.cons (.c (.str [120])) (.cons (.c (.str [121])) (.cons (.c (.str [122])) (.cons (.c (.str [102, 108, 97, 103])) (.cons (.c (.str [116])) .nil)))))) .nil))) .none (.some (.call 7 (.cons (.v 0) (.cons (.lst (.cons (.c (.int (1))) (.cons (.c (.int (2))) (.cons (.c (.int (2))) (.cons (.c (.int (3))) (.cons (.c (.int (0))) .nil)))))) .nil))))) .nil))) (.cons (.asg (.tp (.cons (.nm 3) (.cons (.nm 4) .nil))) (.tup (.cons (.call 8 (.cons (.v 0) (.cons (.lst (.cons (.c (.str [116])) (.cons (.c (.str [117])) (.cons (.c (.str [108, 101, 102, 116])) (.cons (.c (.str [120])) (.cons (.c (.str [118, 50])) .nil)))))) .nil))) (.cons (.tup .nil) .nil)))) (.cons (.for_ (.nm 2) (.rng1 (.call 7 (.cons (.v 0) (.cons (.lst (.cons (.c (.int (0))) (.cons (.c (.int (1))) (.cons (.c (.int (2))) (.cons (.c (.int (2))) (.cons (.c (.int (3))) .nil)))))) .nil)))) (.cons (.asg (.nm 5) (.call 7 (.cons (.v 0) (.cons (.lst (.cons (.c (.int (0))) (.cons (.c (.int (1))) (.cons (.c (.int (2))) (.cons (.c (.int (3))) (.cons (.c (.int (4))) (.cons (.c (.int (8))) .nil))))))) .nil)))) (.cons (.asg (.nm 4) (.bin .add (.v 4) (.tup (.cons (.tup (.cons (.ix (.v 3) (.v 2)) (.cons (.ite (.cmp .ne (.v 1) (.tup .nil)) (.call 12 (.cons (.v 0) (.cons (.v 1) (.cons (.v 5) .nil)))) (.bin .mul (.tup (.cons (.tup (.cons (.c (.str [102, 101, 110, 99, 101])) .nil)) .nil)) (.v 5))) .nil))) .nil)))) .nil))) (.cons (.ret (.tup (.cons (.v 1) (.cons (.v 4) (.cons (.call 15 (.cons (.v 0) (.cons (.v 1) (.cons (.v 4) (.cons (.call 6 (.cons (.v 0) (.cons (.c (.int (4))) .nil))) .nil))))) .nil))))) .nil))))
def f17 : ISs := (.cons (.iff (.cmp .eq (.ix (.v 0) (.c (.int (0)))) (.c (.str [102, 101, 110, 99, 101]))) (.cons (.ret (.c (.str [102, 101, 110, 99, 101, 59]))) .nil) .nil) (.cons (.iff (.cmp .eq (.ix (.v 0) (.c (.int (0)))) (.c (.str [108, 111, 97, 100]))) (.cons (.ret (.bin .add (.bin .add (.bin .add (.ix (.v 0) (.c (.int (1)))) (.c (.str [32, 61, 32]))) (.ix (.v 0) (.c (.int (2))))) (.c (.str [59])))) .nil) .nil) (.cons (.ret (.bin .add (.bin .add (.bin .add (.bin .add (.ix (.v 0) (.c (.int (1)))) (.c (.str [32, 61, 32]))) (.ite (.cmp .eq (.ix (.v 0) (.c (.int (0)))) (.c (.str [115, 119, 97, 112]))) (.bin .add (.bin .add (.c (.str [115, 119, 97, 112, 32])) (.ix (.v 0) (.c (.int (2))))) (.c (.str [32]))) (.c (.str [])))) (.bi .str (.cons (.ix (.ix (.v 0) (.neg (.c (.int (1))))) (.c (.int (1)))) .nil))) (.c (.str [59])))) .nil)))
def f18 : ISs := (.cons (.ret (.bin .add (.bin .add (.bin .add (.bin .add (.c (.str [116, 104, 114, 101, 97, 100, 32])) (.ix (.v 0) (.c (.int (0))))) (.c (.str [32, 123, 32]))) (.mt .join (.c (.str [])) (.cons (.lc [1] (.bin .add (.call 17 (.cons (.v 1) .nil)) (.c (.str [32]))) (.nm 1) (.seq (.ix (.v 0) (.c (.int (1))))) .nil) .nil))) (.c (.str [125])))) .nil)
def f19 : ISs := (.cons (.ret (.bin .add (.bin .add (.mt .join (.c (.str [46])) (.cons (.sl (.v 0) (.some (.c (.int (1)))) (.some (.neg (.c (.int (1)))))) .nil)) (.c (.str [32, 61, 32]))) (.bi .str (.cons (.ix (.v 0) (.neg (.c (.int (1))))) .nil)))) .nil)
def f20 : ISs := (.cons (.ret (.bin .add (.bin .add (.bin .add (.bin .add (.bin .add (.c (.str [97, 115, 107, 32])) (.ix (.v 0) (.c (.int (0))))) (.c (.str [32]))) (.ix (.v 0) (.c (.int (1))))) (.c (.str [58, 32]))) (.mt .join (.c (.str [32, 97, 110, 100, 32])) (.cons (.lc [1] (.call 19 (.cons (.v 1) .nil)) (.nm 1) (.seq (.ix (.v 0) (.c (.int (2))))) .nil) .nil)))) .nil)
def f21 : ISs := (.cons (.asg (.nm 1) (.ite (.cmp .ne (.ix (.v 0) (.c (.int (0)))) (.tup .nil)) (.lst (.cons (.bin .add (.bin .add (.c (.str [112, 108, 97, 99, 101, 32])) (.mt .join (.c (.str [44, 32])) (.cons (.ix (.v 0) (.c (.int (0)))) .nil))) (.c (.str [59]))) .nil)) (.lst .nil))) (.cons (.ret (.mt .join (.c (.str [10])) (.cons (.bin .add (.bin .add (.v 1) (.lc [3] (.call 18 (.cons (.v 3) .nil)) (.nm 3) (.seq (.ix (.v 0) (.c (.int (1))))) .nil)) (.lc [2] (.bin .add (.call 20 (.cons (.v 2) .nil)) (.c (.str [59]))) (.nm 2) (.seq (.ix (.v 0) (.c (.int (2))))) .nil)) .nil))) .nil))
def f23 : ISs := (.cons (.ret (.mt .join (.c (.str [32])) (.cons (.call 22 (.cons (.call 21 (.cons (.v 0) .nil)) .nil)) .nil))) .nil)
def f24 : ISs := (.cons (.asg (.nm 3) (.or (.cmp .eq (.v 1) (.c (.str []))) (.or (.not (.or (.mt .isalnum (.ix (.v 1) (.neg (.c (.int (1))))) .nil) (.cmp .eq (.ix (.v 1) (.neg (.c (.int (1))))) (.c (.str [95]))))) (.not (.or (.mt .isalnum (.ix (.v 2) (.c (.int (0)))) .nil) (.cmp .eq (.ix (.v 2) (.c (.int (0)))) (.c (.str [95])))))))) (.cons (.asg (.nm 4) (.call 6 (.cons (.v 0) (.cons (.c (.int (9))) .nil)))) (.cons (.iff (.cmp .eq (.v 4) (.c (.int (0)))) (.cons (.ret (.c (.str [10]))) .nil) .nil) (.cons (.iff (.cmp .eq (.v 4) (.c (.int (1)))) (.cons (.ret (.call 7 (.cons (.v 0) (.cons (.lst (.cons (.c (.str [32, 35, 32, 120, 32, 61, 32, 55, 59, 10])) (.cons (.c (.str [32, 32])) (.cons (.c (.str [10, 10, 32, 32])) (.cons (.c (.str [32, 35, 10])) .nil))))) .nil)))) .nil) .nil) (.cons (.ret (.ite (.and (.v 3) (.cmp .lt (.v 4) (.c (.int (4))))) (.c (.str [])) (.c (.str [32])))) .nil)))))
def f25 : ISs := (.cons (.asg (.tp (.cons (.nm 3) (.cons (.nm 4) .nil))) (.tup (.cons (.c (.str [])) (.cons (.c (.str [])) .nil)))) (.cons (.for_ (.nm 2) (.seq (.v 1)) (.cons (.asg (.tp (.cons (.nm 3) (.cons (.nm 4) .nil))) (.tup (.cons (.bin .add (.bin .add (.v 3) (.call 24 (.cons (.v 0) (.cons (.v 4) (.cons (.v 2) .nil))))) (.v 2)) (.cons (.v 2) .nil)))) .nil)) (.cons (.ret (.v 3)) .nil)))
def f26 : ISs := (.cons (.asg (.tp (.cons (.nm 2) (.cons (.nm 3) .nil))) (.tup (.cons (.lst .nil) (.cons (.bi .list (.cons (.ix (.v 1) (.c (.int (0)))) .nil)) .nil)))) (.cons (.whl (.cmp .ne (.v 3) (.lst .nil)) (.cons (.asg (.nm 4) (.bin .add (.c (.int (1))) (.call 6 (.cons (.v 0) (.cons (.bi .len (.cons (.v 3) .nil)) .nil))))) (.cons (.asg (.tp (.cons (.nm 2) (.cons (.nm 3) .nil))) (.tup (.cons (.bin .add (.v 2) (.call 22 (.cons (.bin .add (.bin .add (.c (.str [112, 108, 97, 99, 101, 32])) (.mt .join (.c (.str [44, 32])) (.cons (.sl (.v 3) .none (.some (.v 4))) .nil))) (.c (.str [59]))) .nil))) (.cons (.sl (.v 3) (.some (.v 4)) .none) .nil)))) .nil))) (.cons (.asg (.nm 2) (.bin .add (.v 2) (.call 22 (.cons (.call 21 (.cons (.tup (.cons (.tup .nil) (.cons (.ix (.v 1) (.c (.int (1)))) (.cons (.ix (.v 1) (.c (.int (2)))) .nil)))) .nil)) .nil)))) (.cons (.ret (.bin .add (.call 25 (.cons (.v 0) (.cons (.v 2) .nil))) (.call 7 (.cons (.v 0) (.cons (.lst (.cons (.c (.str [])) (.cons (.c (.str [])) (.cons (.c (.str [10])) (.cons (.c (.str [32])) (.cons (.c (.str [32, 35, 32, 116, 104, 101, 32, 101, 110, 100])) (.cons (.c (.str [35])) .nil))))))) .nil))))) .nil))))
def f27 : ISs := (.cons (.asg (.tp (.cons (.nm 3) (.cons (.nm 4) (.cons (.nm 5) .nil)))) (.tup (.cons (.c (.str [97, 98, 99, 100, 101, 102, 103, 104, 105, 106, 107, 108, 109, 110, 111, 112, 113, 114, 115, 116, 117, 118, 119, 120, 121, 122, 65, 66, 67, 68, 69, 70, 71, 72, 73, 74, 75, 76, 77, 78, 79, 80, 81, 82, 83, 84, 85, 86, 87, 88, 89, 90])) (.cons (.c (.str [48, 49, 50, 51, 52, 53, 54, 55, 56, 57])) (.cons (.lst .nil) .nil))))) (.cons (.asg (.nm 1) (.mt .split (.v 0) (.cons (.c (.str [10])) .nil))) (.cons (.for_ (.nm 2) (.rng1 (.bi .len (.cons (.v 1) .nil))) (.cons (.asg (.tp (.cons (.nm 6) (.cons (.nm 7) .nil))) (.tup (.cons (.ix (.v 1) (.v 2)) (.cons (.c (.int (0))) .nil)))) (.cons (.whl (.and (.cmp .lt (.v 7) (.bi .len (.cons (.v 6) .nil))) (.cmp .ne (.ix (.v 6) (.v 7)) (.c (.str [35])))) (.cons (.asg (.tp (.cons (.nm 8) (.cons (.nm 9) .nil))) (.tup (.cons (.c (.int (1))) (.cons (.c (.str [115, 105, 103, 110])) .nil)))) (.cons (.iff (.cmp .in_ (.ix (.v 6) (.v 7)) (.bin .add (.v 3) (.v 4))) (.cons (.asg (.nm 10) (.ite (.cmp .in_ (.ix (.v 6) (.v 7)) (.v 3)) (.bin .add (.bin .add (.v 3) (.v 4)) (.c (.str [95]))) (.v 4))) (.cons (.whl (.and (.cmp .lt (.bin .add (.v 7) (.v 8)) (.bi .len (.cons (.v 6) .nil))) (.cmp .in_ (.ix (.v 6) (.bin .add (.v 7) (.v 8))) (.v 10))) (.cons (.asg (.nm 8) (.bin .add (.v 8) (.c (.int (1))))) .nil)) (.cons (.asg (.nm 11) (.cmp .in_ (.sl (.v 6) (.some (.v 7)) (.some (.bin .add (.v 7) (.v 8)))) (.mt .split (.c (.str [97, 110, 100, 32, 97, 115, 107, 32, 102, 101, 110, 99, 101, 32, 112, 108, 97, 99, 101, 32, 114, 97, 32, 115, 99, 32, 115, 119, 97, 112, 32, 116, 104, 114, 101, 97, 100, 32, 116, 115, 111])) (.cons (.c (.str [32])) .nil)))) (.cons (.asg (.nm 9) (.ite (.cmp .in_ (.ix (.v 6) (.v 7)) (.v 4)) (.c (.str [110, 117, 109, 98, 101, 114])) (.ite (.v 11) (.c (.str [111, 119, 110])) (.c (.str [110, 97, 109, 101]))))) (.cons (.iff (.cmp .gt (.v 8) (.ite (.cmp .eq (.v 9) (.c (.str [110, 117, 109, 98, 101, 114]))) (.c (.int (1))) (.c (.int (12))))) (.cons (.ret (.bin .add (.v 5) (.lst (.cons (.tup (.cons (.c (.str [98, 97, 100])) (.cons (.c (.str [119, 111, 114, 100])) (.cons (.v 2) (.cons (.v 7) .nil))))) .nil)))) .nil) .nil) .nil))))) (.cons (.iff (.cmp .nin (.ix (.v 6) (.v 7)) (.c (.str [61, 59, 58, 44, 46, 123, 125, 32]))) (.cons (.ret (.bin .add (.v 5) (.lst (.cons (.tup (.cons (.c (.str [98, 97, 100])) (.cons (.c (.str [115, 105, 103, 110])) (.cons (.v 2) (.cons (.v 7) .nil))))) .nil)))) .nil) .nil) .nil)) (.cons (.iff (.cmp .ne (.ix (.v 6) (.v 7)) (.c (.str [32]))) (.cons (.ex (.mt .append (.v 5) (.cons (.tup (.cons (.v 9) (.cons (.sl (.v 6) (.some (.v 7)) (.some (.bin .add (.v 7) (.v 8)))) (.cons (.v 2) (.cons (.v 7) .nil))))) .nil))) .nil) .nil) (.cons (.asg (.nm 7) (.bin .add (.v 7) (.v 8))) .nil))))) .nil))) (.cons (.ret (.bin .add (.v 5) (.lst (.cons (.tup (.cons (.c (.str [101, 110, 100])) (.cons (.c (.str [])) (.cons (.bin .sub (.bi .len (.cons (.v 1) .nil)) (.c (.int (1)))) (.cons (.bi .len (.cons (.ix (.v 1) (.neg (.c (.int (1))))) .nil)) .nil))))) .nil)))) .nil))))
def f28 : ISs := (.cons (.asg (.tp (.cons (.nm 3) (.cons (.nm 4) .nil))) (.tup (.cons (.call 6 (.cons (.v 0) (.cons (.bin .add (.bi .len (.cons (.v 1) .nil)) (.c (.int (1)))) .nil))) (.cons (.call 6 (.cons (.v 0) (.cons (.c (.int (4))) .nil))) .nil)))) (.cons (.asg (.nm 2) (.call 7 (.cons (.v 0) (.cons (.lst (.cons (.c (.str [95])) (.cons (.c (.str [33])) (.cons (.c (.str [61])) (.cons (.c (.str [58])) (.cons (.c (.str [62])) (.cons (.c (.str [9])) (.cons (.c (.str [48])) (.cons (.c (.str [49, 50])) (.cons (.c (.str [35])) (.cons (.c (.str [10])) (.cons (.c (.str [32])) (.cons (.c (.str [97])) (.cons (.c (.str [90, 57])) (.cons (.c (.str [44])) (.cons (.c (.str [46])) (.cons (.bin .mul (.c (.str [120])) (.c (.int (13)))) (.cons (.bin .mul (.c (.str [49])) (.c (.int (13)))) (.cons (.c (.str [49, 48])) (.cons (.c (.str [45])) (.cons (.c (.str [61, 62])) (.cons (.c (.str [123])) (.cons (.c (.str [124])) (.cons (.bin .mul (.c (.str [97])) (.c (.int (12)))) (.cons (.bin .mul (.c (.str [98])) (.c (.int (12)))) (.cons (.c (.str [61, 61])) (.cons (.c (.str [112, 108, 97, 99, 101])) (.cons (.c (.str [114, 97])) (.cons (.c (.str [60])) (.cons (.c (.str [116, 104, 114, 101, 97, 100])) (.cons (.c (.str [46, 46])) .nil))))))))))))))))))))))))))))))) .nil)))) (.cons (.iff (.cmp .eq (.v 4) (.c (.int (0)))) (.cons (.ret (.bin .add (.sl (.v 1) .none (.some (.v 3))) (.sl (.v 1) (.some (.bin .add (.v 3) (.c (.int (1))))) .none))) .nil) .nil) (.cons (.iff (.cmp .eq (.v 4) (.c (.int (1)))) (.cons (.ret (.bin .add (.bin .add (.sl (.v 1) .none (.some (.v 3))) (.v 2)) (.sl (.v 1) (.some (.bin .add (.v 3) (.c (.int (1))))) .none))) .nil) .nil) (.cons (.ret (.bin .add (.bin .add (.sl (.v 1) .none (.some (.v 3))) (.v 2)) (.sl (.v 1) (.some (.v 3)) .none))) .nil)))))
def f29 : ISs := (.cons (.ret (.and (.isi (.v 0) [.tuple]) (.bi .all (.cons (.lc [1] (.and (.isi (.v 1) [.tuple]) (.and (.cmp .eq (.bi .len (.cons (.v 1) .nil)) (.c (.int (4)))) (.and (.call 9 (.cons (.ix (.v 1) (.c (.int (2)))) .nil)) (.call 9 (.cons (.ix (.v 1) (.c (.int (3)))) .nil))))) (.nm 1) (.seq (.v 0)) .nil) .nil)))) .nil)
def f30 : ISs := (.cons (.asg (.nm 1) (.call 5 (.cons (.v 0) .nil))) (.cons (.asg (.nm 2) (.call 16 (.cons (.v 1) .nil))) (.cons (.for_ (.nm 3) (.rng1 (.c (.int (4)))) (.cons (.asg (.nm 6) (.ite (.cmp .gt (.v 3) (.c (.int (0)))) (.call 26 (.cons (.v 1) (.cons (.v 2) .nil))) (.call 23 (.cons (.v 2) .nil)))) (.cons (.asg (.nm 7) (.call 4 (.cons (.v 6) .nil))) (.cons (.iff (.or (.cmp .ne (.v 7) (.bi .tuple (.cons (.call 27 (.cons (.v 6) .nil)) .nil))) (.or (.not (.call 29 (.cons (.v 7) .nil))) (.cmp .ne (.ix (.ix (.v 7) (.neg (.c (.int (1))))) (.c (.int (0)))) (.c (.str [101, 110, 100]))))) (.cons (.ret (.c (.bl false))) .nil) .nil) (.cons (.for_ (.nm 8) (.rng1 (.c (.int (3)))) (.cons (.asg (.nm 6) (.call 28 (.cons (.v 1) (.cons (.v 6) .nil)))) (.cons (.asg (.nm 7) (.call 4 (.cons (.v 6) .nil))) (.cons (.iff (.or (.cmp .ne (.v 7) (.bi .tuple (.cons (.call 27 (.cons (.v 6) .nil)) .nil))) (.not (.call 29 (.cons (.v 7) .nil)))) (.cons (.ret (.c (.bl false))) .nil) .nil) .nil)))) .nil))))) (.cons (.asg (.nm 4) (.mt .join (.c (.str [])) (.cons (.lc [9] (.call 7 (.cons (.v 1) (.cons (.bin .add (.bi .list (.cons (.c (.str [97, 98, 95, 48, 57, 32, 44, 59, 58, 61, 123, 125, 35, 10, 46])) .nil)) (.lst (.cons (.c (.str [97, 115, 107])) (.cons (.c (.str [116, 115, 111])) (.cons (.c (.str [115, 119, 97, 112])) (.cons (.c (.str [102, 101, 110, 99, 101])) .nil)))))) .nil))) (.nm 9) (.rng1 (.call 6 (.cons (.v 1) (.cons (.c (.int (30))) .nil)))) .nil) .nil))) (.cons (.iff (.cmp .ne (.call 4 (.cons (.v 4) .nil)) (.bi .tuple (.cons (.call 27 (.cons (.v 4) .nil)) .nil))) (.cons (.ret (.c (.bl false))) .nil) .nil) (.cons (.for_ (.nm 5) (.seq (.lst (.cons (.c .non) (.cons (.c (.int (5))) (.cons (.c (.bl true)) (.cons (.lst (.cons (.c (.str [97])) .nil)) (.cons (.tup (.cons (.c (.str [97])) .nil)) (.cons (.dct (.cons (.c (.str [97])) (.c (.int (1))) .nil)) .nil)))))))) (.cons (.iff (.cmp .ne (.call 4 (.cons (.v 5) .nil)) (.tup (.cons (.tup (.cons (.c (.str [98, 97, 100])) (.cons (.c (.str [116, 101, 120, 116])) (.cons (.c (.int (0))) (.cons (.c (.int (0))) .nil))))) .nil))) (.cons (.ret (.c (.bl false))) .nil) .nil) .nil)) (.cons (.iff (.or (.cmp .ne (.call 4 (.cons (.c (.str [])) .nil)) (.tup (.cons (.tup (.cons (.c (.str [101, 110, 100])) (.cons (.c (.str [])) (.cons (.c (.int (0))) (.cons (.c (.int (0))) .nil))))) .nil))) (.or (.cmp .ne (.call 4 (.cons (.c (.str [97, 10, 32, 35, 32, 98])) .nil)) (.tup (.cons (.tup (.cons (.c (.str [110, 97, 109, 101])) (.cons (.c (.str [97])) (.cons (.c (.int (0))) (.cons (.c (.int (0))) .nil))))) (.cons (.tup (.cons (.c (.str [101, 110, 100])) (.cons (.c (.str [])) (.cons (.c (.int (1))) (.cons (.c (.int (4))) .nil))))) .nil)))) (.cmp .ne (.call 4 (.cons (.c (.str [120, 32, 49])) .nil)) (.tup (.cons (.tup (.cons (.c (.str [110, 97, 109, 101])) (.cons (.c (.str [120])) (.cons (.c (.int (0))) (.cons (.c (.int (0))) .nil))))) (.cons (.tup (.cons (.c (.str [110, 117, 109, 98, 101, 114])) (.cons (.c (.str [49])) (.cons (.c (.int (0))) (.cons (.c (.int (2))) .nil))))) (.cons (.tup (.cons (.c (.str [101, 110, 100])) (.cons (.c (.str [])) (.cons (.c (.int (0))) (.cons (.c (.int (3))) .nil))))) .nil))))))) (.cons (.ret (.c (.bl false))) .nil) .nil) (.cons (.ret (.and (.cmp .eq (.call 4 (.cons (.c (.str [116, 46, 114, 61, 48])) .nil)) (.tup (.cons (.tup (.cons (.c (.str [110, 97, 109, 101])) (.cons (.c (.str [116])) (.cons (.c (.int (0))) (.cons (.c (.int (0))) .nil))))) (.cons (.tup (.cons (.c (.str [115, 105, 103, 110])) (.cons (.c (.str [46])) (.cons (.c (.int (0))) (.cons (.c (.int (1))) .nil))))) (.cons (.tup (.cons (.c (.str [110, 97, 109, 101])) (.cons (.c (.str [114])) (.cons (.c (.int (0))) (.cons (.c (.int (2))) .nil))))) (.cons (.tup (.cons (.c (.str [115, 105, 103, 110])) (.cons (.c (.str [61])) (.cons (.c (.int (0))) (.cons (.c (.int (3))) .nil))))) (.cons (.tup (.cons (.c (.str [110, 117, 109, 98, 101, 114])) (.cons (.c (.str [48])) (.cons (.c (.int (0))) (.cons (.c (.int (4))) .nil))))) (.cons (.tup (.cons (.c (.str [101, 110, 100])) (.cons (.c (.str [])) (.cons (.c (.int (0))) (.cons (.c (.int (5))) .nil))))) .nil)))))))) (.and (.cmp .eq (.call 4 (.cons (.c (.str [120, 32, 61, 32, 49, 48])) .nil)) (.tup (.cons (.tup (.cons (.c (.str [110, 97, 109, 101])) (.cons (.c (.str [120])) (.cons (.c (.int (0))) (.cons (.c (.int (0))) .nil))))) (.cons (.tup (.cons (.c (.str [115, 105, 103, 110])) (.cons (.c (.str [61])) (.cons (.c (.int (0))) (.cons (.c (.int (2))) .nil))))) (.cons (.tup (.cons (.c (.str [98, 97, 100])) (.cons (.c (.str [119, 111, 114, 100])) (.cons (.c (.int (0))) (.cons (.c (.int (4))) .nil))))) .nil))))) (.cmp .eq (.sl (.call 4 (.cons (.c (.str [49, 120])) .nil)) .none (.some (.c (.int (2))))) (.tup (.cons (.tup (.cons (.c (.str [110, 117, 109, 98, 101, 114])) (.cons (.c (.str [49])) (.cons (.c (.int (0))) (.cons (.c (.int (0))) .nil))))) (.cons (.tup (.cons (.c (.str [110, 97, 109, 101])) (.cons (.c (.str [120])) (.cons (.c (.int (0))) (.cons (.c (.int (1))) .nil))))) .nil))))))) .nil))))))))
/-- G: what def _law_parted does -/
def Pg (G : List D → Hs → Res D) : Prg := [.code ⟨3, 4, f0⟩, .code ⟨2, 3, f1⟩, .code ⟨2, 3, f2⟩, .code ⟨1, 8, f3⟩, .code ⟨1, 1, f4⟩, .code ⟨1, 3, f5⟩, .code ⟨2, 5, f6⟩, .code ⟨2, 2, f7⟩, .code ⟨2, 5, f8⟩, .code ⟨1, 1, f9⟩, .code ⟨2, 2, f10⟩, .code ⟨4, 6, f11⟩, .code ⟨3, 8, f12⟩, .code ⟨1, 2, f13⟩, .code ⟨4, 10, f14⟩, .code ⟨4, 8, f15⟩, .code ⟨1, 6, f16⟩, .code ⟨1, 1, f17⟩, .code ⟨1, 2, f18⟩, .code ⟨1, 1, f19⟩, .code ⟨1, 2, f20⟩, .code ⟨1, 4, f21⟩, .prim 1 G, .code ⟨1, 1, f23⟩, .code ⟨3, 5, f24⟩, .code ⟨2, 5, f25⟩, .code ⟨2, 5, f26⟩, .code ⟨1, 12, f27⟩, .code ⟨2, 5, f28⟩, .code ⟨1, 2, f29⟩, .code ⟨1, 10, f30⟩]
def comps0 : List (Option ISs) := ([some f0, some f1, some f2, some f3, some f4, some f5, some f6, some f7, some f8, some f9] : List (Option ISs)) ++ ([some f10, some f11, some f12, some f13, some f14, some f15, some f16, some f17, some f18, some f19] : List (Option ISs)) ++ ([some f20, some f21, none, some f23, some f24, some f25, some f26, some f27, some f28, some f29] : List (Option ISs)) ++ ([some f30] : List (Option ISs))
end HD
end

section
set_option linter.all false
set_option maxRecDepth 100000
set_option maxHeartbeats 1000000
/-! MR1: rules for reckoning with MI1: what comes of a run, loops by what they keep. -/
namespace MI
/-- it comes to an end, with Q -/
def Res.T {α : Type} (r : Res α) (Q : α → Hs → Prop) : Prop :=
  match r with
  | .ok a h => Q a h
  | _ => False
theorem Res.T.mono {α : Type} {r : Res α} {Q Q' : α → Hs → Prop} (p : r.T Q) (f : ∀ a h, Q a h → Q' a h) : r.T Q' := by
  cases r with
  | ok a h => exact f a h p
  | err x h => exact p
  | stuck => exact p
theorem Res.T_ok {α : Type} {a : α} {h : Hs} {Q : α → Hs → Prop} : (Res.ok a h).T Q = Q a h := rfl
theorem Res.T_bind {α β : Type} {r : Res α} {f : α → Hs → Res β} {Q : β → Hs → Prop} : (r.bind f).T Q = r.T fun a h => (f a h).T Q := by
  cases r <;> rfl
theorem Res.ok_bind {α β : Type} {a : α} {h : Hs} {f : α → Hs → Res β} : (Res.ok a h).bind f = f a h := rfl
theorem Res.T_lift {α : Type} {a : α} {h : Hs} {Q : α → Hs → Prop} : (lift h (some a)).T Q = Q a h := rfl
theorem Res.T.ex {α : Type} {r : Res α} {Q : α → Hs → Prop} (p : r.T Q) : ∃ a h, r = .ok a h ∧ Q a h := by
  cases r with
  | ok a h => exact ⟨a, h, rfl, p⟩
  | err x h => exact p.elim
  | stuck => exact p.elim
def SR.T (r : SR) (nx : Env → Hs → Prop) (rt : D → Hs → Prop) (bk ct : Env → Hs → Prop) : Prop :=
  match r with
  | .nx σ h => nx σ h
  | .ret d h => rt d h
  | .brk σ h => bk σ h
  | .cnt σ h => ct σ h
  | _ => False
abbrev No : Env → Hs → Prop := fun _ _ => False
theorem SR.T.mono {r : SR} {nx nx' : Env → Hs → Prop} {rt rt' : D → Hs → Prop} {bk bk' ct ct' : Env → Hs → Prop} (p : r.T nx rt bk ct) (f1 : ∀ σ h, nx σ h → nx' σ h) (f2 : ∀ d h, rt d h → rt' d h) (f3 : ∀ σ h, bk σ h → bk' σ h) (f4 : ∀ σ h, ct σ h → ct' σ h) : r.T nx' rt' bk' ct' := by
  cases r with
  | nx σ h => exact f1 _ _ p
  | ret d h => exact f2 _ _ p
  | brk σ h => exact f3 _ _ p
  | cnt σ h => exact f4 _ _ p
  | err x h => exact p
  | stuck => exact p
section
variable {nx : Env → Hs → Prop} {rt : D → Hs → Prop} {bk ct : Env → Hs → Prop} {κ : Orc}
theorem SR.T_of {α : Type} {r : Res α} {f : α → Hs → SR} : (SR.of r f).T nx rt bk ct = r.T fun a h => (f a h).T nx rt bk ct := by
  cases r <;> rfl
theorem T_nil {σ : Env} {h : Hs} : (exSs κ .nil σ h).T nx rt bk ct = nx σ h := rfl
theorem T_cons {s : IS} {ss : ISs} {σ : Env} {h : Hs} : (exSs κ (.cons s ss) σ h).T nx rt bk ct = (exS κ s σ h).T (fun σ h => (exSs κ ss σ h).T nx rt bk ct) rt bk ct := by
  show (match exS κ s σ h with
    | .nx σ h => exSs κ ss σ h
    | .ret d h => .ret d h
    | .brk σ h => .brk σ h
    | .cnt σ h => .cnt σ h
    | .err x h => .err x h
    | .stuck => .stuck : SR).T nx rt bk ct = _
  cases exS κ s σ h <;> rfl
theorem T_ex {e : IE} {σ : Env} {h : Hs} : (exS κ (.ex e) σ h).T nx rt bk ct = (evE κ e σ h).T fun _ h => nx σ h := SR.T_of
theorem T_asg {t : IT} {e : IE} {σ : Env} {h : Hs} : (exS κ (.asg t e) σ h).T nx rt bk ct = (evE κ e σ h).T fun d h => (evT κ t d σ h).T nx := by
  show (SR.of (evE κ e σ h) fun d h => SR.of (evT κ t d σ h) fun σ h => .nx σ h).T nx rt bk ct = _
  rw [SR.T_of]
  congr 1
  funext d h
  rw [SR.T_of]
  rfl
theorem T_aug {i : Nat} {o : BO} {e : IE} {σ : Env} {h : Hs} {x : D} (hx : σ[i]? = some (some x)) : (exS κ (.aug i o e) σ h).T nx rt bk ct = (evE κ e σ h).T fun y h => (augop o x y h).T fun z h => nx (σ.set i (some z)) h := by
  show (match σ[i]? with
    | some (some x) => SR.of (evE κ e σ h) fun y h => SR.of (augop o x y h) fun z h => .nx (σ.set i (some z)) h
    | _ => .stuck : SR).T nx rt bk ct = _
  rw [hx]
  show (SR.of (evE κ e σ h) fun y h => SR.of (augop o x y h) fun z h => .nx (σ.set i (some z)) h).T nx rt bk ct = _
  rw [SR.T_of]
  congr 1
  funext d h
  rw [SR.T_of]
  rfl
theorem T_iff {c : IE} {a b : ISs} {σ : Env} {h : Hs} : (exS κ (.iff c a b) σ h).T nx rt bk ct = (evB κ c σ h).T fun k h => if k then (exSs κ a σ h).T nx rt bk ct else (exSs κ b σ h).T nx rt bk ct := by
  show (SR.of (evB κ c σ h) fun k h => if k then exSs κ a σ h else exSs κ b σ h).T nx rt bk ct = _
  rw [SR.T_of]
  congr 1
  funext k h
  cases k <;> rfl
theorem T_ret {e : IE} {σ : Env} {h : Hs} : (exS κ (.ret e) σ h).T nx rt bk ct = (evE κ e σ h).T rt := SR.T_of
theorem T_brk {σ : Env} {h : Hs} : (exS κ .brk σ h).T nx rt bk ct = bk σ h := rfl
theorem T_cnt {σ : Env} {h : Hs} : (exS κ .cnt σ h).T nx rt bk ct = ct σ h := rfl
/-! ### while -/
theorem iter_more {c : Env → Hs → Res Bool} {b : Env → Hs → SR} : ∀ {m : Nat} {σ : Env} {h : Hs}, iter c b m σ h ≠ .stuck → iter c b (m + 1) σ h = iter c b m σ h
  | 0, σ, h, n => absurd rfl n
  | m + 1, σ, h, n => by
    unfold iter at n
    show (match c σ h with
      | .ok true h => (match b σ h with
        | .nx σ h => iter c b (m + 1) σ h
        | .cnt σ h => iter c b (m + 1) σ h
        | .brk σ h => .nx σ h
        | .ret d h => .ret d h
        | .err x h => .err x h
        | .stuck => .stuck)
      | .ok false h => .nx σ h
      | .err x h => .err x h
      | .stuck => .stuck) = iter c b (m + 1) σ h
    rw [show iter c b (m + 1) σ h = (match c σ h with
      | .ok true h => (match b σ h with
        | .nx σ h => iter c b m σ h
        | .cnt σ h => iter c b m σ h
        | .brk σ h => .nx σ h
        | .ret d h => .ret d h
        | .err x h => .err x h
        | .stuck => .stuck)
      | .ok false h => .nx σ h
      | .err x h => .err x h
      | .stuck => .stuck) from rfl]
    cases ec : c σ h with
    | ok k h1 =>
      rw [ec] at n
      cases k with
      | false => rfl
      | true =>
        cases eb : b σ h1 with
        | nx σ2 h2 =>
          simp only [eb] at n ⊢
          exact iter_more n
        | cnt σ2 h2 =>
          simp only [eb] at n ⊢
          exact iter_more n
        | brk σ2 h2 => simp only [eb]
        | ret d h2 => simp only [eb]
        | err x h2 => simp only [eb]
        | stuck => simp only [eb]
    | err x h1 => rfl
    | stuck => rfl
theorem iter_le {c : Env → Hs → Res Bool} {b : Env → Hs → SR} {σ : Env} {h : Hs} {m : Nat} (n : iter c b m σ h ≠ .stuck) : ∀ k, iter c b (m + k) σ h = iter c b m σ h
  | 0 => rfl
  | k + 1 => by
    have ih := iter_le n k
    rw [show m + (k + 1) = (m + k) + 1 by omega, iter_more (by rw [ih]; exact n), ih]
theorem itω_eq {c : Env → Hs → Res Bool} {b : Env → Hs → SR} {σ : Env} {h : Hs} {m : Nat} (n : iter c b m σ h ≠ .stuck) : itω c b σ h = iter c b m σ h := by
  have e : ∃ m, iter c b m σ h ≠ .stuck := ⟨m, n⟩
  unfold itω
  rw [dif_pos e]
  have n2 := e.choose_spec
  have h1 := iter_le n e.choose
  have h2 := iter_le n2 m
  rw [← h1, ← h2, Nat.add_comm]
theorem iter_T {c : Env → Hs → Res Bool} {b : Env → Hs → SR} {I : Env → Hs → Prop} {μ : Env → Hs → Nat}
    (step : ∀ σ h, I σ h → (c σ h).T fun k h1 => if k then (b σ h1).T (fun σ' h' => I σ' h' ∧ μ σ' h' < μ σ h) rt nx (fun σ' h' => I σ' h' ∧ μ σ' h' < μ σ h) else nx σ h1) :
    ∀ (m : Nat) (σ : Env) (h : Hs), I σ h → μ σ h < m → (iter c b m σ h).T nx rt No No
  | 0, σ, h, _, hm => by omega
  | m + 1, σ, h, hI, hm => by
    have s := step σ h hI
    unfold iter
    cases ec : c σ h with
    | ok k h1 =>
      rw [ec] at s
      cases k with
      | false => exact s
      | true =>
        have s' : (b σ h1).T (fun σ' h' => I σ' h' ∧ μ σ' h' < μ σ h) rt nx (fun σ' h' => I σ' h' ∧ μ σ' h' < μ σ h) := s
        cases eb : b σ h1 with
        | nx σ2 h2 => rw [eb] at s'; simp only [eb]; exact iter_T step m σ2 h2 s'.1 (Nat.lt_of_lt_of_le s'.2 (by omega))
        | cnt σ2 h2 => rw [eb] at s'; simp only [eb]; exact iter_T step m σ2 h2 s'.1 (Nat.lt_of_lt_of_le s'.2 (by omega))
        | brk σ2 h2 => rw [eb] at s'; simp only [eb]; exact s'
        | ret d h2 => rw [eb] at s'; simp only [eb]; exact s'
        | err x h2 => rw [eb] at s'; exact s'.elim
        | stuck => rw [eb] at s'; exact s'.elim
    | err x h1 => rw [ec] at s; exact s.elim
    | stuck => rw [ec] at s; exact s.elim
/-- a while: I is kept, μ falls -/
theorem T_whl {c : IE} {b : ISs} {σ : Env} {h : Hs} (hκ : κ.it = itω) (I : Env → Hs → Prop) (μ : Env → Hs → Nat) (hI : I σ h)
    (step : ∀ σ h, I σ h → (evB κ c σ h).T fun k h1 => if k then (exSs κ b σ h1).T (fun σ' h' => I σ' h' ∧ μ σ' h' < μ σ h) rt nx (fun σ' h' => I σ' h' ∧ μ σ' h' < μ σ h) else nx σ h1) : (exS κ (.whl c b) σ h).T nx rt bk ct := by
  show (κ.it (evB κ c) (exSs κ b) σ h).T nx rt bk ct
  rw [hκ]
  have p := iter_T (nx := nx) (rt := rt) step (μ σ h + 1) σ h hI (Nat.lt_succ_self _)
  have n : iter (evB κ c) (exSs κ b) (μ σ h + 1) σ h ≠ .stuck := fun e => by rw [e] at p; exact p
  rw [itω_eq n]
  exact p.mono (fun _ _ q => q) (fun _ _ q => q) (fun _ _ q => q.elim) fun _ _ q => q.elim
/-! ### for -/
theorem forL_T {f : D → Env → Hs → SR} {s : Src} {I : Nat → Env → Hs → Prop} {N : Nat}
    (step : ∀ i σ h, i < N → I i σ h → ∃ d, srcAt s h i = some d ∧ (f d σ h).T (I (i + 1)) rt nx (I (i + 1))) (fin : ∀ σ h, I N σ h → srcEnd s h N = true ∧ nx σ h) :
    ∀ (k i : Nat) (σ : Env) (h : Hs), i + k = N → I i σ h → (forL f s k i σ h).T nx rt No No
  | 0, i, σ, h, e, hI => by
    have e' : i = N := by omega
    subst e'
    unfold forL
    rw [(fin σ h hI).1]
    exact (fin σ h hI).2
  | k + 1, i, σ, h, e, hI => by
    obtain ⟨d, ed, s'⟩ := step i σ h (by omega) hI
    unfold forL
    simp only [ed]
    cases eb : f d σ h with
    | nx σ2 h2 => rw [eb] at s'; exact forL_T step fin k (i + 1) σ2 h2 (by omega) s'
    | cnt σ2 h2 => rw [eb] at s'; exact forL_T step fin k (i + 1) σ2 h2 (by omega) s'
    | brk σ2 h2 => rw [eb] at s'; exact s'
    | ret d h2 => rw [eb] at s'; exact s'
    | err x h2 => rw [eb] at s'; exact s'.elim
    | stuck => rw [eb] at s'; exact s'.elim
/-- a for over known items -/
theorem T_for {t : IT} {it : II} {b : ISs} {σ : Env} {h : Hs} (I : Nat → Env → Hs → Prop) (ds : List D) (hs : (evI κ it σ h).T fun s h1 => s = .vals ds ∧ I 0 σ h1)
    (step : ∀ i d σ h, ds[i]? = some d → I i σ h → (evT κ t d σ h).T fun σ h => (exSs κ b σ h).T (I (i + 1)) rt nx (I (i + 1))) (fin : ∀ σ h, I ds.length σ h → nx σ h) : (exS κ (.for_ t it b) σ h).T nx rt bk ct := by
  show (SR.of (evI κ it σ h) fun s h => forS (fun d σ h => SR.of (evT κ t d σ h) fun σ h => exSs κ b σ h) s σ h).T nx rt bk ct
  rw [SR.T_of]
  refine hs.mono fun s h1 ⟨e, hI⟩ => ?_
  subst e
  unfold forS
  refine (forL_T (s := .vals ds) (I := I) (N := ds.length) (nx := nx) (rt := rt) (fun i σ h hi hI => ⟨ds[i], List.getElem?_eq_getElem hi, ?_⟩) (fun σ h hI => ⟨decide_eq_true (Nat.le_refl _), fin σ h hI⟩) ds.length 0 σ h1 (by omega) hI).mono (fun _ _ q => q) (fun _ _ q => q) (fun _ _ q => q.elim) fun _ _ q => q.elim
  rw [SR.T_of]
  exact step i ds[i] σ h (List.getElem?_eq_getElem hi) hI
/-- a for over a list that stays -/
theorem T_forD {t : IT} {it : II} {b : ISs} {σ : Env} {h : Hs} (I : Nat → Env → Hs → Prop) (n : Nat) (ds : List D) (hs : (evI κ it σ h).T fun s h1 => s = .dyn n ∧ seqOf h1 n = some ds ∧ I 0 σ h1)
    (keep : ∀ i σ h, I i σ h → seqOf h n = some ds)
    (step : ∀ i d σ h, ds[i]? = some d → I i σ h → (evT κ t d σ h).T fun σ h => (exSs κ b σ h).T (I (i + 1)) rt nx (I (i + 1))) (fin : ∀ σ h, I ds.length σ h → nx σ h) : (exS κ (.for_ t it b) σ h).T nx rt bk ct := by
  show (SR.of (evI κ it σ h) fun s h => forS (fun d σ h => SR.of (evT κ t d σ h) fun σ h => exSs κ b σ h) s σ h).T nx rt bk ct
  rw [SR.T_of]
  refine hs.mono fun s h1 ⟨e, hq, hI⟩ => ?_
  subst e
  unfold forS
  have el : srcLen (.dyn n) h1 = ds.length := by simp only [srcLen, hq]
  rw [el]
  refine (forL_T (I := I) (N := ds.length) (nx := nx) (rt := rt) (fun i σ h hi hI => ⟨ds[i], ?_, ?_⟩) (fun σ h hI => ⟨?_, fin σ h hI⟩) ds.length 0 σ h1 (by omega) hI).mono (fun _ _ q => q) (fun _ _ q => q) (fun _ _ q => q.elim) fun _ _ q => q.elim
  · simp only [srcAt, keep i σ h hI]; exact List.getElem?_eq_getElem hi
  · rw [SR.T_of]
    exact step i ds[i] σ h (List.getElem?_eq_getElem hi) hI
  · simp only [srcEnd, keep _ σ h hI]; exact decide_eq_true (Nat.le_refl _)
end
/-! ### comprehensions -/
theorem lcL_T {f : D → Hs → Res (Option D)} {s : Src} {I : Nat → List D → Hs → Prop} {N : Nat} {Q : List D → Hs → Prop}
    (step : ∀ i acc h, i < N → I i acc h → ∃ d, srcAt s h i = some d ∧ (f d h).T fun r h => match r with
      | some e => acc.length < L ∧ I (i + 1) (acc ++ [e]) h
      | none => I (i + 1) acc h) (fin : ∀ acc h, I N acc h → srcEnd s h N = true ∧ Q acc h) :
    ∀ (k i : Nat) (acc : List D) (h : Hs), i + k = N → I i acc h → (lcL f s k i acc h).T Q
  | 0, i, acc, h, e, hI => by
    have e' : i = N := by omega
    subst e'
    unfold lcL
    rw [(fin acc h hI).1]
    exact (fin acc h hI).2
  | k + 1, i, acc, h, e, hI => by
    obtain ⟨d, ed, s'⟩ := step i acc h (by omega) hI
    unfold lcL
    simp only [ed]
    rw [Res.T_bind]
    refine s'.mono fun r h1 q => ?_
    cases r with
    | none => exact lcL_T step fin k (i + 1) acc h1 (by omega) q
    | some x =>
      show (if acc.length < L then lcL f s k (i + 1) (acc ++ [x]) h1 else .stuck).T Q
      rw [if_pos q.1]
      exact lcL_T step fin k (i + 1) _ h1 (by omega) q.2
/-- a comprehension over known items, each turn one item -/
theorem T_lc {κ : Orc} {own : List Nat} {e : IE} {t : IT} {it : II} {cs : IEs} {σ : Env} {h : Hs} {Q : D → Hs → Prop} (I : Nat → List D → Hs → Prop) (ds : List D) (hs : (evI κ it σ h).T fun s h1 => s = .vals ds ∧ I 0 [] h1)
    (step : ∀ i d acc h, ds[i]? = some d → I i acc h → (evT κ t d (wipeE σ own) h).T fun σ h => (evC κ cs σ h).T fun b h => if b then (evE κ e σ h).T fun x h => acc.length < L ∧ I (i + 1) (acc ++ [x]) h else I (i + 1) acc h)
    (fin : ∀ acc h, I ds.length acc h → Q (.ref h.length) (h ++ [.lst acc])) : (evE κ (.lc own e t it cs) σ h).T Q := by
  show ((evI κ it σ h).bind fun s h => (lcS (fun d h => (evT κ t d (wipeE σ own) h).bind fun σ h => (evC κ cs σ h).bind fun b h => if b then (evE κ e σ h).bind fun x h => .ok (some x) h else .ok none h) s h).bind fun ds h => new (.lst ds) h).T Q
  rw [Res.T_bind]
  refine hs.mono fun s h1 ⟨es, hI⟩ => ?_
  subst es
  rw [Res.T_bind]
  unfold lcS
  refine lcL_T (s := .vals ds) (I := I) (N := ds.length) (fun i acc h hi hI => ⟨ds[i], List.getElem?_eq_getElem hi, ?_⟩) (fun acc h hI => ⟨decide_eq_true (Nat.le_refl _), fin acc h hI⟩) ds.length 0 [] h1 (by omega) hI
  rw [Res.T_bind]
  refine (step i ds[i] acc h (List.getElem?_eq_getElem hi) hI).mono fun σ h q => ?_
  rw [Res.T_bind]
  refine q.mono fun b h q => ?_
  cases b with
  | false => exact q
  | true =>
    show ((evE κ e σ h).bind fun x h => Res.ok (some x) h).T _
    rw [Res.T_bind]
    exact q
end MI
end

section
set_option linter.all false
set_option maxRecDepth 100000
set_option maxHeartbeats 1000000
/-! MR2: what comes of each construct. -/
namespace MI
section
variable {κ : Orc} {σ : Env} {h : Hs} {a b c e : IE} {es : IEs} {Q : D → Hs → Prop} {R : List D → Hs → Prop} {B : Bool → Hs → Prop} {U : Env → Hs → Prop}
theorem T_liftM {α β : Type} {o : Option α} {f : α → β} {Q : β → Hs → Prop} : (lift h (o.map f)).T Q = ∃ k, o = some k ∧ Q (f k) h := by
  cases o with
  | none => exact propext ⟨fun z => z.elim, fun ⟨k, z, _⟩ => by cases z⟩
  | some k => exact propext ⟨fun z => ⟨k, rfl, z⟩, fun ⟨k', z, q⟩ => by cases z; exact q⟩
theorem T_liftO {α : Type} {o : Option α} {Q : α → Hs → Prop} : (lift h o).T Q = ∃ k, o = some k ∧ Q k h := by
  cases o with
  | none => exact propext ⟨fun z => z.elim, fun ⟨k, z, _⟩ => by cases z⟩
  | some k => exact propext ⟨fun z => ⟨k, rfl, z⟩, fun ⟨k', z, q⟩ => by cases z; exact q⟩
theorem TE_c {d : D} : (evE κ (.c d) σ h).T Q = Q d h := rfl
theorem TE_v {i : Nat} : (evE κ (.v i) σ h).T Q = ∃ d, σ[i]? = some (some d) ∧ Q d h := by
  show (match σ[i]? with
    | some (some d) => Res.ok d h
    | _ => .stuck : Res D).T Q = _
  cases e : σ[i]? with
  | none => exact propext ⟨fun z => z.elim, fun ⟨k, z, _⟩ => by cases z⟩
  | some o =>
    cases o with
    | none => exact propext ⟨fun z => z.elim, fun ⟨k, z, _⟩ => by cases z⟩
    | some d => exact propext ⟨fun z => ⟨d, rfl, z⟩, fun ⟨k', z, q⟩ => by cases z; exact q⟩
theorem T_if {α : Type} {p : Prop} [Decidable p] {r : Res α} {Q : α → Hs → Prop} : (if p then r else .stuck).T Q = (p ∧ r.T Q) := by
  by_cases hp : p
  · rw [if_pos hp]; exact propext ⟨fun z => ⟨hp, z⟩, fun z => z.2⟩
  · rw [if_neg hp]; exact propext ⟨fun z => z.elim, fun z => hp z.1⟩
theorem TE_tup : (evE κ (.tup es) σ h).T Q = (evEs κ es σ h).T fun ds h => ds.length ≤ L ∧ Q (.tup ds) h := by
  show ((evEs κ es σ h).bind fun ds h => if ds.length ≤ L then .ok (.tup ds) h else .stuck).T Q = _
  rw [Res.T_bind]
  congr 1; funext ds h; rw [T_if]; rfl
theorem TE_lst : (evE κ (.lst es) σ h).T Q = (evEs κ es σ h).T fun ds h => ds.length ≤ L ∧ Q (.ref h.length) (h ++ [.lst ds]) := by
  show ((evEs κ es σ h).bind fun ds h => newL ds h).T Q = _
  rw [Res.T_bind]
  congr 1; funext ds h; unfold newL; rw [T_if]; rfl
theorem TE_dct {ks : IKV} : (evE κ (.dct ks) σ h).T Q = (evKV κ ks [] σ h).T fun kvs h => Q (.ref h.length) (h ++ [.dct kvs]) := by
  show ((evKV κ ks [] σ h).bind fun kvs h => new (.dct kvs) h).T Q = _
  rw [Res.T_bind]; rfl
theorem TE_bin {o : BO} : (evE κ (.bin o a b) σ h).T Q = (evE κ a σ h).T fun x h => (evE κ b σ h).T fun y h => (binop o x y h).T Q := by
  show ((evE κ a σ h).bind fun x h => (evE κ b σ h).bind fun y h => binop o x y h).T Q = _
  rw [Res.T_bind]; congr 1; funext x h; rw [Res.T_bind]
theorem TE_cmp {o : CO} : (evE κ (.cmp o a b) σ h).T Q = (evE κ a σ h).T fun x h => (evE κ b σ h).T fun y h => ∃ k, cmpop o x y h = some k ∧ Q (.bl k) h := by
  show ((evE κ a σ h).bind fun x h => (evE κ b σ h).bind fun y h => lift h ((cmpop o x y h).map .bl)).T Q = _
  rw [Res.T_bind]; congr 1; funext x h; rw [Res.T_bind]; congr 1; funext y h; rw [T_liftM]
theorem TB_of : (evB κ e σ h).T B = (evE κ e σ h).T fun d h => ∃ k, truth h d = some k ∧ B k h := by
  unfold evB
  rw [Res.T_bind]; congr 1; funext d h; rw [T_liftO]
theorem TE_ite : (evE κ (.ite c a b) σ h).T Q = (evB κ c σ h).T fun k h => if k then (evE κ a σ h).T Q else (evE κ b σ h).T Q := by
  rw [TB_of]
  show ((evE κ c σ h).bind fun x h => match truth h x with
    | some true => evE κ a σ h
    | some false => evE κ b σ h
    | none => .stuck).T Q = _
  rw [Res.T_bind]; congr 1; funext x h
  cases e : truth h x with
  | none => exact propext ⟨fun z => z.elim, fun ⟨k, z, _⟩ => by cases z⟩
  | some k => cases k <;> exact propext ⟨fun z => ⟨_, rfl, z⟩, fun ⟨k', z, q⟩ => by cases z; exact q⟩
theorem TE_and : (evE κ (.and a b) σ h).T Q = (evE κ a σ h).T fun x h => ∃ k, truth h x = some k ∧ if k then (evE κ b σ h).T Q else Q x h := by
  show ((evE κ a σ h).bind fun x h => match truth h x with
    | some true => evE κ b σ h
    | some false => .ok x h
    | none => .stuck).T Q = _
  rw [Res.T_bind]; congr 1; funext x h
  cases e : truth h x with
  | none => exact propext ⟨fun z => z.elim, fun ⟨k, z, _⟩ => by cases z⟩
  | some k => cases k <;> exact propext ⟨fun z => ⟨_, rfl, z⟩, fun ⟨k', z, q⟩ => by cases z; exact q⟩
theorem TE_or : (evE κ (.or a b) σ h).T Q = (evE κ a σ h).T fun x h => ∃ k, truth h x = some k ∧ if k then Q x h else (evE κ b σ h).T Q := by
  show ((evE κ a σ h).bind fun x h => match truth h x with
    | some true => .ok x h
    | some false => evE κ b σ h
    | none => .stuck).T Q = _
  rw [Res.T_bind]; congr 1; funext x h
  cases e : truth h x with
  | none => exact propext ⟨fun z => z.elim, fun ⟨k, z, _⟩ => by cases z⟩
  | some k => cases k <;> exact propext ⟨fun z => ⟨_, rfl, z⟩, fun ⟨k', z, q⟩ => by cases z; exact q⟩
theorem TE_not : (evE κ (.not a) σ h).T Q = (evB κ a σ h).T fun k h => Q (.bl (!k)) h := by
  rw [TB_of]
  show ((evE κ a σ h).bind fun x h => lift h ((truth h x).map fun b => .bl (!b))).T Q = _
  rw [Res.T_bind]; congr 1; funext x h; rw [T_liftM]
theorem TE_neg : (evE κ (.neg a) σ h).T Q = (evE κ a σ h).T fun x h => ∃ i, x = .int i ∧ Q (.int (-i)) h := by
  show ((evE κ a σ h).bind fun x h => match x with
    | .int i => .ok (.int (-i)) h
    | _ => .stuck).T Q = _
  rw [Res.T_bind]; congr 1; funext x h
  cases x with
  | int i => exact propext ⟨fun z => ⟨i, rfl, z⟩, fun ⟨k', z, q⟩ => by cases z; exact q⟩
  | _ => exact propext ⟨fun z => z.elim, fun ⟨k', z, q⟩ => by cases z⟩
theorem TE_ix : (evE κ (.ix a b) σ h).T Q = (evE κ a σ h).T fun x h => (evE κ b σ h).T fun y h => ∃ d, index x y h = some d ∧ Q d h := by
  show ((evE κ a σ h).bind fun x h => (evE κ b σ h).bind fun y h => lift h (index x y h)).T Q = _
  rw [Res.T_bind]; congr 1; funext x h; rw [Res.T_bind]; congr 1; funext y h; rw [T_liftO]
theorem TE_sl {l r : IO} : (evE κ (.sl a l r) σ h).T Q = (evE κ a σ h).T fun x h => (evO κ l σ h).T fun i h => (evO κ r σ h).T fun j h => (slice x i j h).T Q := by
  show ((evE κ a σ h).bind fun x h => (evO κ l σ h).bind fun i h => (evO κ r σ h).bind fun j h => slice x i j h).T Q = _
  rw [Res.T_bind]; congr 1; funext x h; rw [Res.T_bind]; congr 1; funext i h; rw [Res.T_bind]
theorem TO_none {P : Option Int → Hs → Prop} : (evO κ .none σ h).T P = P none h := rfl
theorem TO_some {P : Option Int → Hs → Prop} : (evO κ (.some e) σ h).T P = (evE κ e σ h).T fun d h => ∃ i, d = .int i ∧ P (some i) h := by
  show ((evE κ e σ h).bind fun d h => match d with
    | .int i => .ok (some i) h
    | _ => .stuck).T P = _
  rw [Res.T_bind]; congr 1; funext x h
  cases x with
  | int i => exact propext ⟨fun z => ⟨i, rfl, z⟩, fun ⟨k', z, q⟩ => by cases z; exact q⟩
  | _ => exact propext ⟨fun z => z.elim, fun ⟨k', z, q⟩ => by cases z⟩
theorem TE_call {f : Nat} : (evE κ (.call f es) σ h).T Q = (evEs κ es σ h).T fun ds h => (κ.call f ds h).T Q := by
  show ((evEs κ es σ h).bind fun ds h => κ.call f ds h).T Q = _
  rw [Res.T_bind]
theorem TE_bi {i : BI} : (evE κ (.bi i es) σ h).T Q = (evEs κ es σ h).T fun ds h => (builtin i ds h).T Q := by
  show ((evEs κ es σ h).bind fun ds h => builtin i ds h).T Q = _
  rw [Res.T_bind]
theorem TE_mt {m : MT} : (evE κ (.mt m a es) σ h).T Q = (evE κ a σ h).T fun x h => recv m x h = true ∧ (evEs κ es σ h).T fun ds h => (method m x ds h).T Q := by
  show ((evE κ a σ h).bind fun x h => if recv m x h then (evEs κ es σ h).bind fun ds h => method m x ds h else .stuck).T Q = _
  rw [Res.T_bind]; congr 1; funext x h; rw [T_if, Res.T_bind]
theorem TE_isi {ts : List Ty} : (evE κ (.isi a ts) σ h).T Q = (evE κ a σ h).T fun x h => ∃ k, tyAny h x ts = some k ∧ Q (.bl k) h := by
  show ((evE κ a σ h).bind fun x h => lift h ((tyAny h x ts).map .bl)).T Q = _
  rw [Res.T_bind]; congr 1; funext x h; rw [T_liftM]
theorem TEs_nil : (evEs κ .nil σ h).T R = R [] h := rfl
theorem TEs_cons : (evEs κ (.cons e es) σ h).T R = (evE κ e σ h).T fun d h => (evEs κ es σ h).T fun ds h => R (d :: ds) h := by
  show ((evE κ e σ h).bind fun d h => (evEs κ es σ h).bind fun ds h => .ok (d :: ds) h).T R = _
  rw [Res.T_bind]; congr 1; funext x h; rw [Res.T_bind]; rfl
theorem TKV_nil {acc : List (D × D)} {P : List (D × D) → Hs → Prop} : (evKV κ .nil acc σ h).T P = P acc h := rfl
theorem TKV_cons {acc : List (D × D)} {r : IKV} {P : List (D × D) → Hs → Prop} : (evKV κ (.cons a b r) acc σ h).T P = (evE κ a σ h).T fun x h => (evE κ b σ h).T fun y h => isKey x = true ∧ (evKV κ r (dput x y acc) σ h).T P := by
  show ((evE κ a σ h).bind fun x h => (evE κ b σ h).bind fun y h => if isKey x then evKV κ r (dput x y acc) σ h else .stuck).T P = _
  rw [Res.T_bind]; congr 1; funext x h; rw [Res.T_bind]; congr 1; funext y h; rw [T_if]
theorem TI_seq {P : Src → Hs → Prop} : (evI κ (.seq e) σ h).T P = (evE κ e σ h).T fun d h => ∃ s, srcOf d h = some s ∧ P s h := by
  show ((evE κ e σ h).bind fun d h => lift h (srcOf d h)).T P = _
  rw [Res.T_bind]; congr 1; funext x h; rw [T_liftO]
theorem TI_rng1 {P : Src → Hs → Prop} : (evI κ (.rng1 a) σ h).T P = (evE κ a σ h).T fun d h => ∃ s, rangeS (.int 0) d = some s ∧ P s h := by
  show ((evE κ a σ h).bind fun d h => lift h (rangeS (.int 0) d)).T P = _
  rw [Res.T_bind]; congr 1; funext x h; rw [T_liftO]
theorem TI_rng2 {P : Src → Hs → Prop} : (evI κ (.rng2 a b) σ h).T P = (evE κ a σ h).T fun x h => (evE κ b σ h).T fun y h => ∃ s, rangeS x y = some s ∧ P s h := by
  show ((evE κ a σ h).bind fun x h => (evE κ b σ h).bind fun y h => lift h (rangeS x y)).T P = _
  rw [Res.T_bind]; congr 1; funext x h; rw [Res.T_bind]; congr 1; funext x h; rw [T_liftO]
theorem TT_nm {i : Nat} {d : D} : (evT κ (.nm i) d σ h).T U = U (σ.set i (some d)) h := rfl
theorem TT_tp {ts : ITs} {ds : List D} : (evT κ (.tp ts) (.tup ds) σ h).T U = (ds.length = tsLen ts ∧ (evTs κ ts ds σ h).T U) := by
  show (if ds.length = tsLen ts then evTs κ ts ds σ h else .stuck : Res Env).T U = _
  rw [T_if]
theorem TT_sub {d : D} : (evT κ (.sub a b) d σ h).T U = (evE κ a σ h).T fun x h => (evE κ b σ h).T fun y h => ∃ h', store x y d h = some h' ∧ U σ h' := by
  show ((evE κ a σ h).bind fun x h => (evE κ b σ h).bind fun y h => match store x y d h with
    | some h => .ok σ h
    | none => .stuck).T U = _
  rw [Res.T_bind]; congr 1; funext x h; rw [Res.T_bind]; congr 1; funext y h
  cases e : store x y d h with
  | none => exact propext ⟨fun z => z.elim, fun ⟨k, z, _⟩ => by cases z⟩
  | some k => exact propext ⟨fun z => ⟨k, rfl, z⟩, fun ⟨k', z, q⟩ => by cases z; exact q⟩
theorem TTs_nil : (evTs κ .nil [] σ h).T U = U σ h := rfl
theorem TTs_cons {t : IT} {ts : ITs} {d : D} {ds : List D} : (evTs κ (.cons t ts) (d :: ds) σ h).T U = (evT κ t d σ h).T fun σ h => (evTs κ ts ds σ h).T U := by
  show ((evT κ t d σ h).bind fun σ h => evTs κ ts ds σ h).T U = _
  rw [Res.T_bind]
theorem TB_cmp {o : CO} : (evB κ (.cmp o a b) σ h).T B = (evE κ a σ h).T fun x h => (evE κ b σ h).T fun y h => ∃ k, cmpop o x y h = some k ∧ B k h := by
  rw [TB_of, TE_cmp]; congr 1; funext x h; congr 1; funext y h
  exact propext ⟨fun ⟨k, e, k', e', q⟩ => by cases e'; exact ⟨k, e, q⟩, fun ⟨k, e, q⟩ => ⟨k, e, k, rfl, q⟩⟩
theorem TB_isi {ts : List Ty} : (evB κ (.isi a ts) σ h).T B = (evE κ a σ h).T fun x h => ∃ k, tyAny h x ts = some k ∧ B k h := by
  rw [TB_of, TE_isi]; congr 1; funext x h
  exact propext ⟨fun ⟨k, e, k', e', q⟩ => by cases e'; exact ⟨k, e, q⟩, fun ⟨k, e, q⟩ => ⟨k, e, k, rfl, q⟩⟩
theorem TB_not : (evB κ (.not a) σ h).T B = (evB κ a σ h).T fun k h => B (!k) h := by
  rw [TB_of, TE_not]; congr 1; funext k h
  exact propext ⟨fun ⟨k', e, q⟩ => by cases e; exact q, fun q => ⟨_, rfl, q⟩⟩
theorem TB_and : (evB κ (.and a b) σ h).T B = (evB κ a σ h).T fun k h => if k then (evB κ b σ h).T B else B false h := by
  rw [TB_of, TE_and, TB_of]; congr 1; funext x h
  refine propext ⟨fun ⟨k, e, q⟩ => ⟨k, e, ?_⟩, fun ⟨k, e, q⟩ => ⟨k, e, ?_⟩⟩
  · cases k with
    | true => rw [if_pos rfl] at q ⊢; rw [TB_of]; exact q
    | false => rw [if_neg (by decide)] at q ⊢; obtain ⟨k', e', q⟩ := q; rw [e] at e'; cases e'; exact q
  · cases k with
    | true => rw [if_pos rfl] at q ⊢; rw [TB_of] at q; exact q
    | false => rw [if_neg (by decide)] at q ⊢; exact ⟨false, e, q⟩
theorem TB_or : (evB κ (.or a b) σ h).T B = (evB κ a σ h).T fun k h => if k then B true h else (evB κ b σ h).T B := by
  rw [TB_of, TE_or, TB_of]; congr 1; funext x h
  refine propext ⟨fun ⟨k, e, q⟩ => ⟨k, e, ?_⟩, fun ⟨k, e, q⟩ => ⟨k, e, ?_⟩⟩
  · cases k with
    | true => rw [if_pos rfl] at q ⊢; obtain ⟨k', e', q⟩ := q; rw [e] at e'; cases e'; exact q
    | false => rw [if_neg (by decide)] at q ⊢; rw [TB_of]; exact q
  · cases k with
    | true => rw [if_pos rfl] at q ⊢; exact ⟨true, e, q⟩
    | false => rw [if_neg (by decide)] at q ⊢; rw [TB_of] at q; exact q
theorem TB_ite : (evB κ (.ite c a b) σ h).T B = (evB κ c σ h).T fun k h => if k then (evB κ a σ h).T B else (evB κ b σ h).T B := by
  rw [TB_of, TE_ite]; congr 1; funext k h
  cases k <;> simp only [TB_of]
theorem TC_nil : (evC κ .nil σ h).T B = B true h := rfl
theorem TC_cons : (evC κ (.cons e es) σ h).T B = (evB κ e σ h).T fun k h => if k then (evC κ es σ h).T B else B false h := by
  rw [TB_of]
  show ((evE κ e σ h).bind fun d h => match truth h d with
    | some true => evC κ es σ h
    | some false => .ok false h
    | none => .stuck).T B = _
  rw [Res.T_bind]; congr 1; funext x h
  cases e : truth h x with
  | none => exact propext ⟨fun z => z.elim, fun ⟨k, z, _⟩ => by cases z⟩
  | some k => cases k <;> exact propext ⟨fun z => ⟨_, rfl, z⟩, fun ⟨k', z, q⟩ => by cases z; exact q⟩
end
end MI
end

section
set_option linter.all false
set_option maxRecDepth 100000
set_option maxHeartbeats 1000000
/-! MW1: the words of a text. -/
namespace MI
theorem run_T {P : Prg} {n f : Nat} {fn : Fn} {ds : List D} {h : Hs} {Q : D → Hs → Prop} (hf : P[f]? = some (.code fn)) (hl : ds.length = fn.np)
    (p : (exSs ⟨run P n, itω⟩ fn.body (ds.map some ++ List.replicate (fn.ns - fn.np) none) h).T (fun _ h => Q .non h) Q No No) : (run P (n + 1) f ds h).T Q := by
  show (match P[f]? with
    | some (.code fn) => callFn ⟨run P n, itω⟩ fn ds h
    | some (.prim ar g) => if ds.length = ar then g ds h else .stuck
    | none => .stuck : Res D).T Q
  rw [hf]
  show (callFn ⟨run P n, itω⟩ fn ds h).T Q
  unfold callFn
  rw [if_pos hl]
  cases e : exSs ⟨run P n, itω⟩ fn.body (ds.map some ++ List.replicate (fn.ns - fn.np) none) h with
  | nx σ h1 => rw [e] at p; exact p
  | ret d h1 => rw [e] at p; exact p
  | brk σ h1 => rw [e] at p; exact p.elim
  | cnt σ h1 => rw [e] at p; exact p.elim
  | err x h1 => rw [e] at p; exact p.elim
  | stuck => rw [e] at p; exact p.elim
end MI
namespace HD
open MI
theorem ixN_nat {n k : Nat} (hk : k < n) : ixN n (k : Int) = some k := by
  unfold ixN
  rw [if_pos (by omega), Int.toNat_natCast, if_pos hk]
theorem index_str {x : S} {k : Nat} {h : Hs} (hk : k < x.length) : index (.str x) (.int (k : Int)) h = some (.str [x[k]]) := by
  unfold index
  simp only [ixN_nat hk, List.getElem?_eq_getElem hk, Option.map_some]
def tw (sg x : S) : Nat := (x.takeWhile fun c => decide (c ∈ sg)).length
theorem tw_hit {sg x : S} {e : Nat} (he : e < x.length) (hc : x[e] ∈ sg) : tw sg (x.drop e) = tw sg (x.drop (e + 1)) + 1 := by
  unfold tw
  rw [List.drop_eq_getElem_cons he, List.takeWhile_cons_of_pos (by simpa using hc), List.length_cons]
theorem tw_miss {sg x : S} {e : Nat} (he : e < x.length) (hc : x[e] ∉ sg) : tw sg (x.drop e) = 0 := by
  unfold tw
  rw [List.drop_eq_getElem_cons he, List.takeWhile_cons_of_neg (by simpa using hc)]
  rfl
theorem tw_end {sg x : S} {e : Nat} (he : x.length ≤ e) : tw sg (x.drop e) = 0 := by
  unfold tw
  rw [List.drop_eq_nil_of_le he]
  rfl
variable {G : List D → Hs → Res D} {n : Nat}
theorem row_end_T (x sg : S) (a : Nat) (h : Hs) : (run (Pg G) (n + 1) 0 [.str x, .int a, .str sg] h).T fun d h' => h' = h ∧ d = .int ((a + tw sg (x.drop a) : Nat)) := by
  refine run_T rfl rfl ?_
  show (exSs _ f0 [some (.str x), some (.int a), some (.str sg), none] h).T _ _ _ _
  unfold f0
  simp only [T_cons, T_nil, T_asg, T_ex, T_iff, T_ret, T_brk, T_cnt, TE_c, TE_v, TE_tup, TE_lst, TE_dct, TE_bin, TE_cmp, TE_ite, TE_and, TE_or, TE_not, TE_neg, TE_ix, TE_sl, TO_none, TO_some, TE_call, TE_bi, TE_mt, TE_isi, TEs_nil, TEs_cons, TKV_nil, TKV_cons, TI_seq, TI_rng1, TI_rng2, TT_nm, TT_tp, TT_sub, TTs_nil, TTs_cons, TB_cmp, TB_isi, TB_not, TB_and, TB_or, TB_ite, TC_nil, TC_cons, Res.T_ok, List.getElem?_cons_succ, List.getElem?_cons_zero, List.set_cons_succ, List.set_cons_zero, Option.some.injEq, exists_eq_left', D.int.injEq, D.str.injEq, D.bl.injEq, D.tup.injEq]
  refine T_whl rfl (fun σ h' => h' = h ∧ ∃ e : Nat, σ = [some (.str x), some (.int a), some (.str sg), some (.int e)] ∧ e + tw sg (x.drop e) = a + tw sg (x.drop a)) (fun σ h' => match σ with
    | [_, _, _, some (.int e)] => x.length - e.toNat
    | _ => 0) ⟨rfl, a, rfl, rfl⟩ ?_
  rintro σ h' ⟨rfl, e, rfl, he⟩
  simp only [T_cons, T_nil, T_asg, T_ex, T_iff, T_ret, T_brk, T_cnt, TE_c, TE_v, TE_tup, TE_lst, TE_dct, TE_bin, TE_cmp, TE_ite, TE_and, TE_or, TE_not, TE_neg, TE_ix, TE_sl, TO_none, TO_some, TE_call, TE_bi, TE_mt, TE_isi, TEs_nil, TEs_cons, TKV_nil, TKV_cons, TI_seq, TI_rng1, TI_rng2, TT_nm, TT_tp, TT_sub, TTs_nil, TTs_cons, TB_cmp, TB_isi, TB_not, TB_and, TB_or, TB_ite, TC_nil, TC_cons, Res.T_ok, List.getElem?_cons_succ, List.getElem?_cons_zero, List.set_cons_succ, List.set_cons_zero, Option.some.injEq, exists_eq_left', D.int.injEq, D.str.injEq, D.bl.injEq, D.tup.injEq, builtin, biLen, cmpop, ltI]
  by_cases hl : e < x.length
  · rw [if_pos (by simpa using hl)]
    refine ⟨_, index_str hl, _, rfl, ?_⟩
    by_cases hc : x[e] ∈ sg
    · rw [if_pos (by simpa using hc), T_aug (x := .int e) rfl]
      simp only [T_cons, T_nil, T_asg, T_ex, T_iff, T_ret, T_brk, T_cnt, TE_c, TE_v, TE_tup, TE_lst, TE_dct, TE_bin, TE_cmp, TE_ite, TE_and, TE_or, TE_not, TE_neg, TE_ix, TE_sl, TO_none, TO_some, TE_call, TE_bi, TE_mt, TE_isi, TEs_nil, TEs_cons, TKV_nil, TKV_cons, TI_seq, TI_rng1, TI_rng2, TT_nm, TT_tp, TT_sub, TTs_nil, TTs_cons, TB_cmp, TB_isi, TB_not, TB_and, TB_or, TB_ite, TC_nil, TC_cons, Res.T_ok, List.getElem?_cons_succ, List.getElem?_cons_zero, List.set_cons_succ, List.set_cons_zero, Option.some.injEq, exists_eq_left', D.int.injEq, D.str.injEq, D.bl.injEq, D.tup.injEq, augop]
      refine ⟨⟨trivial, e + 1, ?_, ?_⟩, ?_⟩
      · simp
      · rw [tw_hit hl hc] at he; omega
      · simp only [Int.toNat_natCast]; omega
    · rw [if_neg (by simpa using hc)]
      rw [tw_miss hl hc] at he
      exact ⟨trivial, by omega⟩
  · rw [if_neg (by simpa using hl), if_neg (by decide)]
    rw [tw_end (by omega)] at he
    exact ⟨trivial, by omega⟩
/-! ### the words' signs -/
def LET : S := [97, 98, 99, 100, 101, 102, 103, 104, 105, 106, 107, 108, 109, 110, 111, 112, 113, 114, 115, 116, 117, 118, 119, 120, 121, 122, 65, 66, 67, 68, 69, 70, 71, 72, 73, 74, 75, 76, 77, 78, 79, 80, 81, 82, 83, 84, 85, 86, 87, 88, 89, 90]
def FIG : S := [48, 49, 50, 51, 52, 53, 54, 55, 56, 57]
def SGN : S := LET ++ FIG ++ [95]
def ONE : S := [61, 59, 58, 44, 46, 123, 125]
def OWN : List S := [[97, 110, 100], [97, 115, 107], [102, 101, 110, 99, 101], [112, 108, 97, 99, 101], [114, 97], [115, 99], [115, 119, 97, 112], [116, 104, 114, 101, 97, 100], [116, 115, 111]]
def sBad : S := [98, 97, 100]
def sWord : S := [119, 111, 114, 100]
def sOwn : S := [111, 119, 110]
def sName : S := [110, 97, 109, 101]
def sNum : S := [110, 117, 109, 98, 101, 114]
def sSign : S := [115, 105, 103, 110]
def sEnd : S := [101, 110, 100]
theorem LET_lit : ([97, 98, 99, 100, 101, 102, 103, 104, 105, 106, 107, 108, 109, 110, 111, 112, 113, 114, 115, 116, 117, 118, 119, 120, 121, 122, 65, 66, 67, 68, 69, 70, 71, 72, 73, 74, 75, 76, 77, 78, 79, 80, 81, 82, 83, 84, 85, 86, 87, 88, 89, 90] : S) = LET := rfl
theorem FIG_lit : ([48, 49, 50, 51, 52, 53, 54, 55, 56, 57] : S) = FIG := rfl
theorem ONE_lit : ([61, 59, 58, 44, 46, 123, 125] : S) = ONE := rfl
/-- the word of sort p that stands at a -/
def wd (sg x : S) (a : Nat) : S := (x.drop a).takeWhile fun c => decide (c ∈ sg)
def lword (x : S) (a : Nat) : S × S := if 12 < (wd SGN x a).length then (sBad, sWord) else (if wd SGN x a ∈ OWN then sOwn else sName, wd SGN x a)
def wfrom (x : S) (a : Nat) : S × S :=
  match x[a]? with
  | some c => if c ∈ LET then lword x a
    else if c ∈ FIG then (if (wd FIG x a).length = 1 then (sNum, wd FIG x a) else (sBad, sWord))
    else if c ∈ ONE then (sSign, [c]) else (sBad, sSign)
  | none => (sBad, sSign)
def pr (p : S × S) : D := .tup [.str p.1, .str p.2]
theorem cut_wd {sg x : S} {a : Nat} (ha : a ≤ x.length) : cut x (some (a : Int)) (some ((a + tw sg (x.drop a) : Nat) : Int)) = wd sg x a := by
  have hle : tw sg (x.drop a) ≤ x.length - a := by
    have := (List.takeWhile_prefix (fun c => decide (c ∈ sg)) (l := x.drop a)).length_le
    rw [List.length_drop] at this
    exact this
  unfold cut cl wd
  simp only [if_pos (show (0 : Int) ≤ ((a : Nat) : Int) by omega), if_pos (show (0 : Int) ≤ ((a + tw sg (x.drop a) : Nat) : Int) by omega), Int.toNat_natCast]
  rw [show min a x.length = a from Nat.min_eq_left ha, show min (a + tw sg (x.drop a)) x.length = a + tw sg (x.drop a) from Nat.min_eq_left (by omega), List.drop_take, show a + tw sg (x.drop a) - a = tw sg (x.drop a) by omega]
  unfold tw
  exact (List.prefix_iff_eq_take.mp (List.takeWhile_prefix _)).symm
theorem exTs_strs {f : Nat → Option D} : ∀ ws : List S, exTs f (ws.map .str) = some (ws.map .str)
  | [] => rfl
  | w :: ws => by
    rw [List.map_cons]
    unfold exTs
    rw [exTs_strs ws]
    rfl
theorem deps_strs : ∀ ws : List S, deps (ws.map .str) = 0
  | [] => rfl
  | w :: ws => by
    rw [List.map_cons]
    unfold deps
    rw [deps_strs ws]
    rfl
theorem isIn_strs {h : Hs} {w : S} (ws : List S) : isIn (.str w) (.tup (ws.map .str)) h = some (decide (w ∈ ws)) := by
  show inItems h (.str w) (ws.map .str) = _
  unfold inItems
  rw [exTs_strs]
  show (if min (deps (ws.map .str)) 0 ≤ 64 then some ((ws.map D.str).any fun z => eqv z (.str w)) else none) = _
  rw [if_pos (by omega), List.any_map]
  congr 1
  induction ws with
  | nil => rfl
  | cons v ws ih =>
    rw [List.any_cons, ih]
    show (v == w || decide (w ∈ ws)) = decide (w ∈ v :: ws)
    by_cases e : v = w
    · subst e; simp
    · have e' : ¬ w = v := fun z => e z.symm
      simp [e, e']
theorem le2 {a b : D} : [a, b].length ≤ L := by show 2 ≤ 16777216; decide
theorem letter_word_T (x : S) (a : Nat) (ha : a ≤ x.length) (h : Hs) : (run (Pg G) (n + 2) 1 [.str x, .int a] h).T fun d h' => h' = h ∧ d = pr (lword x a) := by
  refine run_T rfl rfl ?_
  show (exSs _ f1 [some (.str x), some (.int a), none] h).T _ _ _ _
  unfold f1
  simp only [T_cons, T_nil, T_asg, T_ex, T_iff, T_ret, T_brk, T_cnt, TE_c, TE_v, TE_tup, TE_lst, TE_dct, TE_bin, TE_cmp, TE_ite, TE_and, TE_or, TE_not, TE_neg, TE_ix, TE_sl, TO_none, TO_some, TE_call, TE_bi, TE_mt, TE_isi, TEs_nil, TEs_cons, TKV_nil, TKV_cons, TI_seq, TI_rng1, TI_rng2, TT_nm, TT_tp, TT_sub, TTs_nil, TTs_cons, TB_cmp, TB_isi, TB_not, TB_and, TB_or, TB_ite, TC_nil, TC_cons, Res.T_ok, List.getElem?_cons_succ, List.getElem?_cons_zero, List.set_cons_succ, List.set_cons_zero, Option.some.injEq, exists_eq_left', D.int.injEq, D.str.injEq, D.bl.injEq, D.tup.injEq]
  refine (row_end_T x SGN a h).mono fun d h1 ⟨e1, e2⟩ => ?_
  subst e1 e2
  refine ⟨_, rfl, ?_⟩
  show (Res.ok (D.str (cut x (some (a : Int)) (some ((a + tw SGN (x.drop a) : Nat) : Int)))) h1).T _
  rw [cut_wd ha]
  simp only [T_cons, T_nil, T_asg, T_ex, T_iff, T_ret, T_brk, T_cnt, TE_c, TE_v, TE_tup, TE_lst, TE_dct, TE_bin, TE_cmp, TE_ite, TE_and, TE_or, TE_not, TE_neg, TE_ix, TE_sl, TO_none, TO_some, TE_call, TE_bi, TE_mt, TE_isi, TEs_nil, TEs_cons, TKV_nil, TKV_cons, TI_seq, TI_rng1, TI_rng2, TT_nm, TT_tp, TT_sub, TTs_nil, TTs_cons, TB_cmp, TB_isi, TB_not, TB_and, TB_or, TB_ite, TC_nil, TC_cons, Res.T_ok, List.getElem?_cons_succ, List.getElem?_cons_zero, List.set_cons_succ, List.set_cons_zero, Option.some.injEq, exists_eq_left', D.int.injEq, D.str.injEq, D.bl.injEq, D.tup.injEq, builtin, biLen, cmpop, ltI]
  by_cases hl : 12 < (wd SGN x a).length
  · rw [if_pos (decide_eq_true (by omega))]
    refine ⟨le2, trivial, ?_⟩
    unfold lword
    rw [if_pos hl]
    rfl
  · rw [if_neg (by simp; omega)]
    refine ⟨_, isIn_strs OWN, ?_⟩
    unfold lword
    rw [if_neg hl]
    by_cases ho : wd SGN x a ∈ OWN
    · rw [if_pos (by simpa using ho), if_pos ho]
      exact ⟨le2, trivial, rfl⟩
    · rw [if_neg (by simpa using ho), if_neg ho]
      exact ⟨le2, trivial, rfl⟩
theorem isIn_ch {c : Nat} {sg : S} {h : Hs} : isIn (.str [c]) (.str sg) h = some (decide (c ∈ sg)) := rfl
theorem word_from_T (x : S) (a : Nat) (ha : a < x.length) (h : Hs) : (run (Pg G) (n + 3) 2 [.str x, .int a] h).T fun d h' => h' = h ∧ d = pr (wfrom x a) := by
  refine run_T rfl rfl ?_
  show (exSs _ f2 [some (.str x), some (.int a), none] h).T _ _ _ _
  unfold f2
  simp only [T_cons, T_nil, T_asg, T_ex, T_iff, T_ret, T_brk, T_cnt, TE_c, TE_v, TE_tup, TE_lst, TE_dct, TE_bin, TE_cmp, TE_ite, TE_and, TE_or, TE_not, TE_neg, TE_ix, TE_sl, TO_none, TO_some, TE_call, TE_bi, TE_mt, TE_isi, TEs_nil, TEs_cons, TKV_nil, TKV_cons, TI_seq, TI_rng1, TI_rng2, TT_nm, TT_tp, TT_sub, TTs_nil, TTs_cons, TB_cmp, TB_isi, TB_not, TB_and, TB_or, TB_ite, TC_nil, TC_cons, Res.T_ok, List.getElem?_cons_succ, List.getElem?_cons_zero, List.set_cons_succ, List.set_cons_zero, Option.some.injEq, exists_eq_left', D.int.injEq, D.str.injEq, D.bl.injEq, D.tup.injEq, cmpop, index_str ha, isIn_ch, LET_lit, FIG_lit, ONE_lit]
  have ew : wfrom x a = if x[a] ∈ LET then lword x a
    else if x[a] ∈ FIG then (if (wd FIG x a).length = 1 then (sNum, wd FIG x a) else (sBad, sWord))
    else if x[a] ∈ ONE then (sSign, [x[a]]) else (sBad, sSign) := by
    unfold wfrom
    rw [List.getElem?_eq_getElem ha]
  rw [ew]
  by_cases h1 : x[a] ∈ LET
  · rw [if_pos (decide_eq_true h1), if_pos h1]
    exact letter_word_T x a (by omega) h
  · rw [if_neg (fun z => h1 (of_decide_eq_true z)), if_neg h1]
    by_cases h2 : x[a] ∈ FIG
    · rw [if_pos (decide_eq_true h2), if_pos h2]
      refine (row_end_T (n := n + 1) x FIG a h).mono fun d h1 ⟨e1, e2⟩ => ?_
      subst e1 e2
      refine ⟨_, rfl, ?_⟩
      show (Res.ok (D.str (cut x (some (a : Int)) (some ((a + tw FIG (x.drop a) : Nat) : Int)))) h1).T _
      rw [cut_wd (by omega)]
      simp only [T_cons, T_nil, T_asg, T_ex, T_iff, T_ret, T_brk, T_cnt, TE_c, TE_v, TE_tup, TE_lst, TE_dct, TE_bin, TE_cmp, TE_ite, TE_and, TE_or, TE_not, TE_neg, TE_ix, TE_sl, TO_none, TO_some, TE_call, TE_bi, TE_mt, TE_isi, TEs_nil, TEs_cons, TKV_nil, TKV_cons, TI_seq, TI_rng1, TI_rng2, TT_nm, TT_tp, TT_sub, TTs_nil, TTs_cons, TB_cmp, TB_isi, TB_not, TB_and, TB_or, TB_ite, TC_nil, TC_cons, Res.T_ok, List.getElem?_cons_succ, List.getElem?_cons_zero, List.set_cons_succ, List.set_cons_zero, Option.some.injEq, exists_eq_left', D.int.injEq, D.str.injEq, D.bl.injEq, D.tup.injEq, builtin, biLen]
      have eq1 : ∀ k : Nat, eqB h1 (.int (k : Int)) (.int 1) = some ((k : Int) == 1) := fun k => rfl
      simp only [eq1, Option.some.injEq, exists_eq_left']
      by_cases hk : (wd FIG x a).length = 1
      · have hk' : (((wd FIG x a).length : Int) == 1) = true := by rw [hk]; rfl
        simp only [hk', if_true, if_pos hk]
        exact ⟨le2, trivial, rfl⟩
      · have hk' : (((wd FIG x a).length : Int) == 1) = false := by
          cases e : (((wd FIG x a).length : Int) == 1) with
          | false => rfl
          | true => exact absurd (by have := eq_of_beq e; omega) hk
        simp only [hk', if_neg hk]
        exact ⟨le2, trivial, rfl⟩
    · rw [if_neg (fun z => h2 (of_decide_eq_true z)), if_neg h2]
      by_cases h3 : x[a] ∈ ONE
      · rw [if_pos (decide_eq_true h3), if_pos h3]
        exact ⟨le2, trivial, rfl⟩
      · rw [if_neg (fun z => h3 (of_decide_eq_true z)), if_neg h3]
        exact ⟨le2, trivial, rfl⟩
end HD
end

section
set_option linter.all false
set_option maxRecDepth 100000
set_option maxHeartbeats 1000000
/-! MW2: words_in. -/
namespace HD
open MI
def tk (p : S × S) (num a : Nat) : D := .tup [.str p.1, .str p.2, .int (num : Int), .int (a : Int)]
/-- the words of a line from a on; true: it ended by a bad one -/
def lineW (num : Nat) (x : S) (a : Nat) : List D × Bool :=
  if h : a < x.length then
    if x[a] = 35 then ([], false)
    else if x[a] = 32 then lineW num x (a + 1)
    else if (wfrom x a).1 = sBad then ([tk (wfrom x a) num a], true)
    else (tk (wfrom x a) num a :: (lineW num x (a + max 1 (wfrom x a).2.length)).1, (lineW num x (a + max 1 (wfrom x a).2.length)).2)
  else ([], false)
termination_by x.length - a
def linesW : Nat → List S → List D × Bool
  | _, [] => ([], false)
  | num, x :: r => if (lineW num x 0).2 = true then (lineW num x 0) else ((lineW num x 0).1 ++ (linesW (num + 1) r).1, (linesW (num + 1) r).2)
def endW (ls : List S) : D := .tup [.str sEnd, .str [], .int ((ls.length : Int) - 1), .int ((ls.getLast?.getD []).length : Nat)]
def allW (ls : List S) : List D := if (linesW 0 ls).2 = true then (linesW 0 ls).1 else (linesW 0 ls).1 ++ [endW ls]
def W (t : S) : List D := allW (splitOn 10 t)
theorem lineW_len (num : Nat) (x : S) : ∀ (k a : Nat), x.length - a ≤ k → (lineW num x a).1.length ≤ x.length - a
  | k, a, hk => by
    rw [lineW]
    split
    · rename_i h
      split
      · simp
      · split
        · match k with
          | 0 => omega
          | k + 1 => exact Nat.le_trans (lineW_len num x k (a + 1) (by omega)) (by omega)
        · split
          · show 1 ≤ _; omega
          · match k with
            | 0 => omega
            | k + 1 =>
              have := lineW_len num x k (a + max 1 (wfrom x a).2.length) (by omega)
              rw [List.length_cons]
              omega
    · simp
theorem linesW_len : ∀ (num : Nat) (ls : List S), (linesW num ls).1.length ≤ (ls.map List.length).sum
  | _, [] => by simp [linesW]
  | num, x :: r => by
    have h1 := lineW_len num x x.length 0 (by omega)
    have h2 := linesW_len (num + 1) r
    unfold linesW
    rw [List.map_cons, List.sum_cons]
    split
    · omega
    · rw [List.length_append]; omega
theorem splitOn_sum (c : Nat) : ∀ t : S, ((splitOn c t).map List.length).sum ≤ t.length
  | [] => by simp [splitOn]
  | d :: t => by
    have ih := splitOn_sum c t
    unfold splitOn
    split
    · simp; omega
    · split
      · rename_i e; rw [e] at ih; simp at ih ⊢; omega
      · simp
theorem wfrom_pos {x : S} {a : Nat} (ha : a < x.length) (hb : (wfrom x a).1 ≠ sBad) : 1 ≤ (wfrom x a).2.length := by
  have wp : ∀ sg : S, x[a] ∈ sg → 1 ≤ (wd sg x a).length := fun sg hs => by
    unfold wd
    rw [List.drop_eq_getElem_cons ha, List.takeWhile_cons_of_pos (by simpa using hs), List.length_cons]
    omega
  have hl : ∀ c ∈ LET, c ∈ SGN := fun c hc => List.mem_append_left _ (List.mem_append_left _ hc)
  unfold wfrom at hb ⊢
  rw [List.getElem?_eq_getElem ha] at hb ⊢
  simp only at hb ⊢
  split
  · rename_i h1
    rw [if_pos h1] at hb
    unfold lword at hb ⊢
    split
    · rename_i h2; rw [if_pos h2] at hb; exact absurd rfl hb
    · exact wp SGN (hl _ h1)
  · rename_i h1
    rw [if_neg h1] at hb
    split
    · rename_i h2
      rw [if_pos h2] at hb
      split
      · exact wp FIG h2
      · rename_i h3; rw [if_neg h3] at hb; exact absurd rfl hb
    · rename_i h2
      rw [if_neg h2] at hb
      split
      · simp
      · rename_i h3; rw [if_neg h3] at hb; exact absurd rfl hb
theorem at0 {h0 : Hs} {a b : MO} : (h0 ++ [a, b])[h0.length]? = some a := by simp
theorem at1 {h0 : Hs} {a b : MO} : (h0 ++ [a, b])[h0.length + 1]? = some b := by simp
theorem set0 {h0 : Hs} {a b c : MO} : (h0 ++ [a, b]).set h0.length c = h0 ++ [c, b] := by simp
variable {G : List D → Hs → Res D} {n : Nat}
theorem eqB_str {h : Hs} {u v : S} : eqB h (.str u) (.str v) = some (u == v) := rfl
theorem one_eq {c d : Nat} : (([c] : S) == [d]) = decide (c = d) := by
  by_cases e : c = d
  · subst e; simp
  · simp [e]
theorem ne_ch {c d : Nat} {h : Hs} : cmpop .ne (.str [c]) (.str [d]) h = some (!decide (c = d)) := by
  show (eqB h (.str [c]) (.str [d])).map (!·) = _
  rw [eqB_str, one_eq]; rfl
theorem eq_ch {c d : Nat} {h : Hs} : cmpop .eq (.str [c]) (.str [d]) h = some (decide (c = d)) := by
  show eqB h (.str [c]) (.str [d]) = _
  rw [eqB_str, one_eq]
theorem lineW_stop {num : Nat} {x : S} {a : Nat} (ha : x.length ≤ a) : lineW num x a = ([], false) := by
  rw [lineW, dif_neg (by omega)]
theorem lineW_hash {num : Nat} {x : S} {a : Nat} (ha : a < x.length) (h : x[a] = 35) : lineW num x a = ([], false) := by
  rw [lineW, dif_pos ha, if_pos h]
theorem lineW_sp {num : Nat} {x : S} {a : Nat} (ha : a < x.length) (h : x[a] = 32) : lineW num x a = lineW num x (a + 1) := by
  rw [lineW, dif_pos ha, if_neg (by rw [h]; decide), if_pos h]
theorem lineW_bad {num : Nat} {x : S} {a : Nat} (ha : a < x.length) (h : x[a] ≠ 35) (h2 : x[a] ≠ 32) (hb : (wfrom x a).1 = sBad) : lineW num x a = ([tk (wfrom x a) num a], true) := by
  rw [lineW, dif_pos ha, if_neg h, if_neg h2, if_pos hb]
theorem lineW_go {num : Nat} {x : S} {a : Nat} (ha : a < x.length) (h : x[a] ≠ 35) (h2 : x[a] ≠ 32) (hb : (wfrom x a).1 ≠ sBad) : lineW num x a = (tk (wfrom x a) num a :: (lineW num x (a + (wfrom x a).2.length)).1, (lineW num x (a + (wfrom x a).2.length)).2) := by
  rw [lineW, dif_pos ha, if_neg h, if_neg h2, if_neg hb, Nat.max_eq_right (wfrom_pos ha hb)]
theorem rec_app {h0 : Hs} {xs : List D} {l : MO} : decide (tyOf (h0 ++ [.lst xs, l]) (.ref h0.length) = some (mtTy .append)) = true := by
  simp only [tyOf, at0]
  rfl
theorem app_T {h0 : Hs} {xs : List D} {l : MO} {d : D} {Q : D → Hs → Prop} (hl : xs.length < L) (q : Q .non (h0 ++ [.lst (xs ++ [d]), l])) : (method .append (.ref h0.length) [d] (h0 ++ [.lst xs, l])).T Q := by
  show (mtAppend (.ref h0.length) [d] (h0 ++ [.lst xs, l])).T Q
  unfold mtAppend
  simp only [at0, if_pos hl, set0]
  exact q
theorem le4 {a b c d : D} : [a, b, c, d].length ≤ L := by show 4 ≤ 16777216; decide
abbrev wIn : IS := .whl (.and (.cmp .lt (.v 5) (.bi .len (.cons (.v 4) .nil))) (.cmp .ne (.ix (.v 4) (.v 5)) (.c (.str [35])))) (.cons (.iff (.cmp .eq (.ix (.v 4) (.v 5)) (.c (.str [32]))) (.cons (.aug 5 .add (.c (.int (1)))) (.cons .cnt .nil)) .nil) (.cons (.asg (.tp (.cons (.nm 6) (.cons (.nm 7) .nil))) (.call 2 (.cons (.v 4) (.cons (.v 5) .nil)))) (.cons (.ex (.mt .append (.v 1) (.cons (.tup (.cons (.v 6) (.cons (.v 7) (.cons (.v 3) (.cons (.v 5) .nil))))) .nil))) (.cons (.iff (.cmp .eq (.v 6) (.c (.str [98, 97, 100]))) (.cons (.ret (.v 1)) .nil) .nil) (.cons (.aug 5 .add (.bi .len (.cons (.v 7) .nil))) .nil)))))
theorem wIn_T (h0 : Hs) (T : D) (acc : List D) (l : MO) (num : Nat) (x : S) (s6 s7 : Option D) (bk ct : Env → Hs → Prop) (hL : acc.length + x.length ≤ L) :
    (exS ⟨run (Pg G) (n + 3), itω⟩ wIn [some T, some (.ref h0.length), some (.ref (h0.length + 1)), some (.int (num : Int)), some (.str x), some (.int (0 : Nat)), s6, s7] (h0 ++ [.lst acc, l])).T
      (fun σ' h' => (lineW num x 0).2 = false ∧ h' = h0 ++ [.lst (acc ++ (lineW num x 0).1), l] ∧ ∃ s4 s5 s6 s7, σ' = [some T, some (.ref h0.length), some (.ref (h0.length + 1)), some (.int (num : Int)), s4, s5, s6, s7])
      (fun d h' => (lineW num x 0).2 = true ∧ h' = h0 ++ [.lst (acc ++ (lineW num x 0).1), l] ∧ d = .ref h0.length) bk ct := by
  refine T_whl rfl (fun σ h => ∃ (a : Nat) (s6 s7 : Option D) (acc' : List D), σ = [some T, some (.ref h0.length), some (.ref (h0.length + 1)), some (.int (num : Int)), some (.str x), some (.int (a : Int)), s6, s7] ∧ h = h0 ++ [.lst (acc ++ acc'), l] ∧ acc' ++ (lineW num x a).1 = (lineW num x 0).1 ∧ (lineW num x a).2 = (lineW num x 0).2)
    (fun σ h => match σ with
      | [_, _, _, _, _, some (.int e), _, _] => x.length - e.toNat
      | _ => 0) ⟨0, s6, s7, [], rfl, by simp, rfl, rfl⟩ ?_
  rintro σ h ⟨a, s6, s7, acc', rfl, rfl, h1, h2⟩
  simp only [T_cons, T_nil, T_asg, T_ex, T_iff, T_ret, T_brk, T_cnt, TE_c, TE_v, TE_tup, TE_lst, TE_dct, TE_bin, TE_cmp, TE_ite, TE_and, TE_or, TE_not, TE_neg, TE_ix, TE_sl, TO_none, TO_some, TE_call, TE_bi, TE_mt, TE_isi, TEs_nil, TEs_cons, TKV_nil, TKV_cons, TI_seq, TI_rng1, TI_rng2, TT_nm, TT_tp, TT_sub, TTs_nil, TTs_cons, TB_cmp, TB_isi, TB_not, TB_and, TB_or, TB_ite, TC_nil, TC_cons, Res.T_ok, List.getElem?_cons_succ, List.getElem?_cons_zero, List.set_cons_succ, List.set_cons_zero, Option.some.injEq, exists_eq_left', D.int.injEq, D.str.injEq, D.bl.injEq, D.tup.injEq, builtin, biLen, cmpop, ltI]
  have stop : lineW num x a = ([], false) → ((lineW num x 0).2 = false ∧ h0 ++ [MO.lst (acc ++ acc'), l] = h0 ++ [MO.lst (acc ++ (lineW num x 0).1), l]) := fun e => by
    rw [e] at h1 h2
    refine ⟨h2.symm, ?_⟩
    rw [← h1]; simp
  by_cases ha : a < x.length
  · rw [if_pos (decide_eq_true (by omega))]
    refine ⟨_, index_str ha, _, ne_ch (h := h0), ?_⟩
    by_cases hh : x[a] = 35
    · rw [if_neg (by simp [hh])]
      exact ⟨(stop (lineW_hash ha hh)).1, (stop (lineW_hash ha hh)).2, _, _, _, _, rfl⟩
    · rw [if_pos (by simp [hh])]
      refine ⟨_, index_str ha, _, eq_ch (h := h0), ?_⟩
      by_cases h3 : x[a] = 32
      · rw [if_pos (by simp [h3]), T_aug (x := .int (a : Int)) rfl]
        simp only [T_cons, T_nil, T_asg, T_ex, T_iff, T_ret, T_brk, T_cnt, TE_c, TE_v, TE_tup, TE_lst, TE_dct, TE_bin, TE_cmp, TE_ite, TE_and, TE_or, TE_not, TE_neg, TE_ix, TE_sl, TO_none, TO_some, TE_call, TE_bi, TE_mt, TE_isi, TEs_nil, TEs_cons, TKV_nil, TKV_cons, TI_seq, TI_rng1, TI_rng2, TT_nm, TT_tp, TT_sub, TTs_nil, TTs_cons, TB_cmp, TB_isi, TB_not, TB_and, TB_or, TB_ite, TC_nil, TC_cons, Res.T_ok, List.getElem?_cons_succ, List.getElem?_cons_zero, List.set_cons_succ, List.set_cons_zero, Option.some.injEq, exists_eq_left', D.int.injEq, D.str.injEq, D.bl.injEq, D.tup.injEq, augop]
        rw [lineW_sp ha h3] at h1 h2
        exact ⟨⟨a + 1, s6, s7, acc', rfl, rfl, h1, h2⟩, by show x.length - ((a : Int) + 1).toNat < x.length - (a : Int).toNat; omega⟩
      · rw [if_neg (by simp [h3])]
        refine (word_from_T x a ha _).mono fun d h' ⟨e1, e2⟩ => ?_
        subst e1 e2
        unfold pr
        simp only [T_cons, T_nil, T_asg, T_ex, T_iff, T_ret, T_brk, T_cnt, TE_c, TE_v, TE_tup, TE_lst, TE_dct, TE_bin, TE_cmp, TE_ite, TE_and, TE_or, TE_not, TE_neg, TE_ix, TE_sl, TO_none, TO_some, TE_call, TE_bi, TE_mt, TE_isi, TEs_nil, TEs_cons, TKV_nil, TKV_cons, TI_seq, TI_rng1, TI_rng2, TT_nm, TT_tp, TT_sub, TTs_nil, TTs_cons, TB_cmp, TB_isi, TB_not, TB_and, TB_or, TB_ite, TC_nil, TC_cons, Res.T_ok, List.getElem?_cons_succ, List.getElem?_cons_zero, List.set_cons_succ, List.set_cons_zero, Option.some.injEq, exists_eq_left', D.int.injEq, D.str.injEq, D.bl.injEq, D.tup.injEq, recv]
        have hb : ∀ h, eqB h (D.str (wfrom x a).1) (D.str [98, 97, 100]) = some (decide ((wfrom x a).1 = sBad)) := fun h => by
          rw [eqB_str]
          by_cases e : (wfrom x a).1 = sBad
          · rw [e]; rfl
          · have e2 : ((wfrom x a).1 == ([98, 97, 100] : S)) = false := beq_eq_false_iff_ne.mpr e
            rw [e2, decide_eq_false e]
        have hlen := congrArg List.length h1
        rw [List.length_append] at hlen
        have hL0 := lineW_len num x x.length 0 (by omega)
        have hpos : 1 ≤ (lineW num x a).1.length := by
          by_cases e : (wfrom x a).1 = sBad
          · rw [lineW_bad ha hh h3 e]; exact Nat.le_refl 1
          · rw [lineW_go ha hh h3 e]; exact Nat.succ_le_succ (Nat.zero_le _)
        refine ⟨rfl, rec_app, le4, app_T (by rw [List.length_append]; omega) ⟨_, hb _, ?_⟩⟩
        by_cases e : (wfrom x a).1 = sBad
        · rw [if_pos (decide_eq_true e)]
          rw [lineW_bad ha hh h3 e] at h1 h2
          refine ⟨h2.symm, ?_, trivial⟩
          rw [← h1, List.append_assoc]
          rfl
        · rw [if_neg (by simp [e]), T_aug (x := .int (a : Int)) rfl]
          simp only [T_cons, T_nil, T_asg, T_ex, T_iff, T_ret, T_brk, T_cnt, TE_c, TE_v, TE_tup, TE_lst, TE_dct, TE_bin, TE_cmp, TE_ite, TE_and, TE_or, TE_not, TE_neg, TE_ix, TE_sl, TO_none, TO_some, TE_call, TE_bi, TE_mt, TE_isi, TEs_nil, TEs_cons, TKV_nil, TKV_cons, TI_seq, TI_rng1, TI_rng2, TT_nm, TT_tp, TT_sub, TTs_nil, TTs_cons, TB_cmp, TB_isi, TB_not, TB_and, TB_or, TB_ite, TC_nil, TC_cons, Res.T_ok, List.getElem?_cons_succ, List.getElem?_cons_zero, List.set_cons_succ, List.set_cons_zero, Option.some.injEq, exists_eq_left', D.int.injEq, D.str.injEq, D.bl.injEq, D.tup.injEq, builtin, biLen, augop]
          rw [lineW_go ha hh h3 e] at h1 h2
          have hp := wfrom_pos ha e
          refine ⟨⟨a + (wfrom x a).2.length, some (.str (wfrom x a).1), some (.str (wfrom x a).2), acc' ++ [tk (wfrom x a) num a], ?_, ?_, ?_, h2⟩, ?_⟩
          · simp
          · rw [List.append_assoc]; rfl
          · rw [← h1, List.append_assoc]; rfl
          · show x.length - ((a : Int) + ((wfrom x a).2.length : Int)).toNat < x.length - (a : Int).toNat
            omega
  · rw [if_neg (by simp; omega), if_neg (by decide)]
    exact ⟨(stop (lineW_stop (by omega))).1, (stop (lineW_stop (by omega))).2, _, _, _, _, rfl⟩
end HD
end

section
set_option linter.all false
set_option maxRecDepth 100000
set_option maxHeartbeats 1000000
/-! MW3: words_in, words_of. -/
namespace HD
open MI
variable {G : List D → Hs → Res D} {n : Nat}
theorem rngV_get {m i : Nat} {d : D} (e : (rngV 0 (m : Int))[i]? = some d) : i < m ∧ d = .int (i : Int) := by
  unfold rngV at e
  rw [List.getElem?_map] at e
  obtain ⟨k, hk, rfl⟩ := Option.map_eq_some_iff.mp e
  obtain ⟨h1, h2⟩ := List.getElem?_eq_some_iff.mp hk
  rw [List.getElem_range] at h2
  subst h2
  simp only [Int.sub_zero, Int.toNat_natCast, List.length_range] at h1
  exact ⟨h1, by simp⟩
theorem rngV_len {m : Nat} : (rngV 0 (m : Int)).length = m := by
  unfold rngV
  simp
theorem rangeS_nat {m : Nat} (hm : m < 1073741824) : rangeS (.int 0) (.int (m : Int)) = some (.vals (rngV 0 (m : Int))) := by
  unfold rangeS
  simp only
  rw [if_pos (by omega)]
theorem linesW_drop {num i : Nat} {ls : List S} (hi : i < ls.length) : linesW num (ls.drop i) = if (lineW num ls[i] 0).2 = true then lineW num ls[i] 0 else ((lineW num ls[i] 0).1 ++ (linesW (num + 1) (ls.drop (i + 1))).1, (linesW (num + 1) (ls.drop (i + 1))).2) := by
  rw [List.drop_eq_getElem_cons hi]
  rfl
theorem index_ref {h : Hs} {k i : Nat} {ds : List D} (hk : h[k]? = some (.lst ds)) (hi : i < ds.length) : index (.ref k) (.int (i : Int)) h = some ds[i] := by
  unfold index
  simp only [hk]
  unfold itemAt
  rw [ixN_nat hi]
  exact List.getElem?_eq_getElem hi
theorem splitOn_ne (c : Nat) : ∀ t : S, 1 ≤ (splitOn c t).length
  | [] => by simp [splitOn]
  | d :: t => by
    have ih := splitOn_ne c t
    unfold splitOn
    split
    · simp
    · split
      · simp
      · simp
theorem splitOn_le (c : Nat) : ∀ t : S, (splitOn c t).length ≤ t.length + 1
  | [] => by simp [splitOn]
  | d :: t => by
    have ih := splitOn_le c t
    unfold splitOn
    split
    · simp; omega
    · split
      · rename_i e; rw [e] at ih; simp at ih ⊢; omega
      · simp
theorem le_sum {ls : List S} : ∀ {i : Nat} (hi : i < ls.length), ls[i].length ≤ (ls.map List.length).sum := by
  induction ls with
  | nil => intro i hi; cases hi
  | cons x r ih =>
    intro i hi
    rw [List.map_cons, List.sum_cons]
    cases i with
    | zero => show x.length ≤ _; omega
    | succ i =>
      have hi' : i < r.length := by simpa using hi
      have := ih hi'
      show r[i].length ≤ _
      omega
theorem index_last {h : Hs} {k : Nat} {ds : List D} (hk : h[k]? = some (.lst ds)) (hn : 1 ≤ ds.length) : index (.ref k) (.int (-1)) h = some ds[ds.length - 1] := by
  unfold index
  simp only [hk]
  unfold itemAt
  have e : ixN ds.length (-1) = some (ds.length - 1) := by
    unfold ixN
    rw [if_neg (by decide)]
    exact if_pos hn
  rw [e]
  exact List.getElem?_eq_getElem (by omega)
theorem words_in_T (t : S) (ht : t.length ≤ 1048576) (h : Hs) : (run (Pg G) (n + 4) 3 [.str t] h).T fun d h' => h' = h ++ [.lst (W t), .lst ((splitOn 10 t).map .str)] ∧ d = .ref h.length := by
  refine run_T rfl rfl ?_
  show (exSs _ f3 [some (.str t), none, none, none, none, none, none, none] h).T _ _ _ _
  unfold f3
  have sp : (method .split (.str t) [.str [10]] (h ++ [.lst []])) = .ok (.ref (h.length + 1)) (h ++ [.lst [], .lst ((splitOn 10 t).map .str)]) := by
    show (if t.length + 2 ≤ L ∧ 10 < 256 then new (.lst ((splitOn 10 t).map .str)) (h ++ [.lst []]) else .stuck) = _
    rw [if_pos ⟨by show t.length + 2 ≤ 16777216; omega, by decide⟩]
    unfold new
    simp
  simp only [T_cons, T_nil, T_asg, T_ex, T_iff, T_ret, T_brk, T_cnt, TE_c, TE_v, TE_tup, TE_lst, TE_dct, TE_bin, TE_cmp, TE_ite, TE_and, TE_or, TE_not, TE_neg, TE_ix, TE_sl, TO_none, TO_some, TE_call, TE_bi, TE_mt, TE_isi, TEs_nil, TEs_cons, TKV_nil, TKV_cons, TI_seq, TI_rng1, TI_rng2, TT_nm, TT_tp, TT_sub, TTs_nil, TTs_cons, TB_cmp, TB_isi, TB_not, TB_and, TB_or, TB_ite, TC_nil, TC_cons, Res.T_ok, List.getElem?_cons_succ, List.getElem?_cons_zero, List.set_cons_succ, List.set_cons_zero, Option.some.injEq, exists_eq_left', D.int.injEq, D.str.injEq, D.bl.injEq, D.tup.injEq]
  refine ⟨by show 0 ≤ 16777216; decide, rfl, ?_⟩
  rw [sp]
  simp only [T_cons, T_nil, T_asg, T_ex, T_iff, T_ret, T_brk, T_cnt, TE_c, TE_v, TE_tup, TE_lst, TE_dct, TE_bin, TE_cmp, TE_ite, TE_and, TE_or, TE_not, TE_neg, TE_ix, TE_sl, TO_none, TO_some, TE_call, TE_bi, TE_mt, TE_isi, TEs_nil, TEs_cons, TKV_nil, TKV_cons, TI_seq, TI_rng1, TI_rng2, TT_nm, TT_tp, TT_sub, TTs_nil, TTs_cons, TB_cmp, TB_isi, TB_not, TB_and, TB_or, TB_ite, TC_nil, TC_cons, Res.T_ok, List.getElem?_cons_succ, List.getElem?_cons_zero, List.set_cons_succ, List.set_cons_zero, Option.some.injEq, exists_eq_left', D.int.injEq, D.str.injEq, D.bl.injEq, D.tup.injEq]
  generalize hls : splitOn 10 t = ls
  have hlen : ls.length ≤ t.length + 1 := by rw [← hls]; exact splitOn_le 10 t
  have hne : 1 ≤ ls.length := by rw [← hls]; exact splitOn_ne 10 t
  have hsum : (ls.map List.length).sum ≤ t.length := by rw [← hls]; exact splitOn_sum 10 t
  have hW : W t = allW ls := by unfold W; rw [hls]
  have hlW := linesW_len 0 ls
  refine T_for (fun i σ h' => ∃ acc s3 s4 s5 s6 s7, σ = [some (.str t), some (.ref h.length), some (.ref (h.length + 1)), s3, s4, s5, s6, s7] ∧ h' = h ++ [.lst acc, .lst (ls.map .str)] ∧ acc ++ (linesW i (ls.drop i)).1 = (linesW 0 ls).1 ∧ (linesW i (ls.drop i)).2 = (linesW 0 ls).2) (rngV 0 (ls.length : Int)) ?_ ?_ ?_
  · simp only [T_cons, T_nil, T_asg, T_ex, T_iff, T_ret, T_brk, T_cnt, TE_c, TE_v, TE_tup, TE_lst, TE_dct, TE_bin, TE_cmp, TE_ite, TE_and, TE_or, TE_not, TE_neg, TE_ix, TE_sl, TO_none, TO_some, TE_call, TE_bi, TE_mt, TE_isi, TEs_nil, TEs_cons, TKV_nil, TKV_cons, TI_seq, TI_rng1, TI_rng2, TT_nm, TT_tp, TT_sub, TTs_nil, TTs_cons, TB_cmp, TB_isi, TB_not, TB_and, TB_or, TB_ite, TC_nil, TC_cons, Res.T_ok, List.getElem?_cons_succ, List.getElem?_cons_zero, List.set_cons_succ, List.set_cons_zero, Option.some.injEq, exists_eq_left', D.int.injEq, D.str.injEq, D.bl.injEq, D.tup.injEq, builtin, biLen, at1, List.length_map]
    exact ⟨_, rangeS_nat (by omega), rfl, [], _, _, _, _, _, rfl, rfl, rfl, rfl⟩
  · rintro i d σ h' hd ⟨acc, s3, s4, s5, s6, s7, rfl, rfl, h1, h2⟩
    obtain ⟨hi, rfl⟩ := rngV_get hd
    simp only [T_cons, T_nil, T_asg, T_ex, T_iff, T_ret, T_brk, T_cnt, TE_c, TE_v, TE_tup, TE_lst, TE_dct, TE_bin, TE_cmp, TE_ite, TE_and, TE_or, TE_not, TE_neg, TE_ix, TE_sl, TO_none, TO_some, TE_call, TE_bi, TE_mt, TE_isi, TEs_nil, TEs_cons, TKV_nil, TKV_cons, TI_seq, TI_rng1, TI_rng2, TT_nm, TT_tp, TT_sub, TTs_nil, TTs_cons, TB_cmp, TB_isi, TB_not, TB_and, TB_or, TB_ite, TC_nil, TC_cons, Res.T_ok, List.getElem?_cons_succ, List.getElem?_cons_zero, List.set_cons_succ, List.set_cons_zero, Option.some.injEq, exists_eq_left', D.int.injEq, D.str.injEq, D.bl.injEq, D.tup.injEq]
    refine ⟨_, index_ref at1 (by simpa using hi), ?_⟩
    simp only [List.getElem_map]
    have hacc := congrArg List.length h1
    rw [List.length_append] at hacc
    have hle := le_sum hi
    have e0 := linesW_drop (num := i) hi
    refine (wIn_T (G := G) (n := n) h (.str t) acc (.lst (ls.map .str)) i ls[i] s6 s7 _ _ (by show _ ≤ 16777216; omega)).mono ?_ ?_ (fun _ _ q => q) (fun _ _ q => q)
    · rintro σ' h' ⟨f1, rfl, s4, s5, s6, s7, rfl⟩
      rw [if_neg (by rw [f1]; decide)] at e0
      rw [e0] at h1 h2
      exact ⟨_, _, _, _, _, _, rfl, rfl, by rw [List.append_assoc]; exact h1, h2⟩
    · rintro d h' ⟨f1, rfl, rfl⟩
      rw [if_pos f1] at e0
      rw [e0] at h1 h2
      refine ⟨?_, rfl⟩
      rw [hW]
      unfold allW
      rw [if_pos (by rw [← h2]; exact f1), ← h1]
  · rintro σ h' ⟨acc, s3, s4, s5, s6, s7, rfl, rfl, h1, h2⟩
    rw [rngV_len, List.drop_length] at h1 h2
    have h1' : acc = (linesW 0 ls).1 := by rw [← h1]; exact (List.append_nil _).symm
    have h2' : (linesW 0 ls).2 = false := h2.symm
    have hn1 : ((ls.map D.str).length) = ls.length := by simp
    simp only [T_cons, T_nil, T_asg, T_ex, T_iff, T_ret, T_brk, T_cnt, TE_c, TE_v, TE_tup, TE_lst, TE_dct, TE_bin, TE_cmp, TE_ite, TE_and, TE_or, TE_not, TE_neg, TE_ix, TE_sl, TO_none, TO_some, TE_call, TE_bi, TE_mt, TE_isi, TEs_nil, TEs_cons, TKV_nil, TKV_cons, TI_seq, TI_rng1, TI_rng2, TT_nm, TT_tp, TT_sub, TTs_nil, TTs_cons, TB_cmp, TB_isi, TB_not, TB_and, TB_or, TB_ite, TC_nil, TC_cons, Res.T_ok, List.getElem?_cons_succ, List.getElem?_cons_zero, List.set_cons_succ, List.set_cons_zero, Option.some.injEq, exists_eq_left', D.int.injEq, D.str.injEq, D.bl.injEq, D.tup.injEq, builtin, biLen, at1, binop, subD]
    refine ⟨rec_app, _, index_last at1 (by simpa using hne), ?_⟩
    simp only [List.getElem_map, T_cons, T_nil, T_asg, T_ex, T_iff, T_ret, T_brk, T_cnt, TE_c, TE_v, TE_tup, TE_lst, TE_dct, TE_bin, TE_cmp, TE_ite, TE_and, TE_or, TE_not, TE_neg, TE_ix, TE_sl, TO_none, TO_some, TE_call, TE_bi, TE_mt, TE_isi, TEs_nil, TEs_cons, TKV_nil, TKV_cons, TI_seq, TI_rng1, TI_rng2, TT_nm, TT_tp, TT_sub, TTs_nil, TTs_cons, TB_cmp, TB_isi, TB_not, TB_and, TB_or, TB_ite, TC_nil, TC_cons, Res.T_ok, List.getElem?_cons_succ, List.getElem?_cons_zero, List.set_cons_succ, List.set_cons_zero, Option.some.injEq, exists_eq_left', D.int.injEq, D.str.injEq, D.bl.injEq, D.tup.injEq]
    refine ⟨le4, app_T (by rw [h1']; show _ < 16777216; omega) ⟨?_, trivial⟩⟩
    rw [hW]
    unfold allW
    rw [if_neg (by rw [h2']; decide), h1']
    unfold endW
    have e : ls.getLast?.getD [] = ls[(ls.map D.str).length - 1]'(by rw [hn1]; omega) := by
      rw [List.getLast?_eq_getElem?, List.getElem?_eq_getElem (by omega)]
      simp
    rw [e]
    simp only [List.length_map]
    rfl
theorem words_of_T (t : S) (ht : t.length ≤ 1048576) (h : Hs) : (run (Pg G) (n + 5) 4 [.str t] h).T fun d h' => h' = h ++ [.lst (W t), .lst ((splitOn 10 t).map .str)] ∧ d = .tup (W t) := by
  refine run_T rfl rfl ?_
  show (exSs _ f4 [some (.str t)] h).T _ _ _ _
  unfold f4
  simp only [T_cons, T_nil, T_asg, T_ex, T_iff, T_ret, T_brk, T_cnt, TE_c, TE_v, TE_tup, TE_lst, TE_dct, TE_bin, TE_cmp, TE_ite, TE_and, TE_or, TE_not, TE_neg, TE_ix, TE_sl, TO_none, TO_some, TE_call, TE_bi, TE_mt, TE_isi, TEs_nil, TEs_cons, TKV_nil, TKV_cons, TI_seq, TI_rng1, TI_rng2, TT_nm, TT_tp, TT_sub, TTs_nil, TTs_cons, TB_cmp, TB_isi, TB_not, TB_and, TB_or, TB_ite, TC_nil, TC_cons, Res.T_ok, List.getElem?_cons_succ, List.getElem?_cons_zero, List.set_cons_succ, List.set_cons_zero, Option.some.injEq, exists_eq_left', D.int.injEq, D.str.injEq, D.bl.injEq, D.tup.injEq]
  refine ⟨true, rfl, ?_⟩
  simp only [Bool.not_true, if_neg (show ¬ (false = true) by decide)]
  refine (words_in_T t ht h).mono fun d h' ⟨e1, e2⟩ => ?_
  subst e1 e2
  simp only [builtin, biTuple, seqOf, at0]
  exact ⟨rfl, rfl⟩
def badText : D := .tup [.tup [.str sBad, .str [116, 101, 120, 116], .int 0, .int 0]]
theorem words_of_odd (x : D) (h : Hs) (hx : tyAny h x [.str] = some false) : (run (Pg G) (n + 5) 4 [x] h).T fun d h' => h' = h ∧ d = badText := by
  refine run_T rfl rfl ?_
  show (exSs _ f4 [some x] h).T _ _ _ _
  unfold f4
  simp only [T_cons, T_nil, T_asg, T_ex, T_iff, T_ret, T_brk, T_cnt, TE_c, TE_v, TE_tup, TE_lst, TE_dct, TE_bin, TE_cmp, TE_ite, TE_and, TE_or, TE_not, TE_neg, TE_ix, TE_sl, TO_none, TO_some, TE_call, TE_bi, TE_mt, TE_isi, TEs_nil, TEs_cons, TKV_nil, TKV_cons, TI_seq, TI_rng1, TI_rng2, TT_nm, TT_tp, TT_sub, TTs_nil, TTs_cons, TB_cmp, TB_isi, TB_not, TB_and, TB_or, TB_ite, TC_nil, TC_cons, Res.T_ok, List.getElem?_cons_succ, List.getElem?_cons_zero, List.set_cons_succ, List.set_cons_zero, Option.some.injEq, exists_eq_left', D.int.injEq, D.str.injEq, D.bl.injEq, D.tup.injEq]
  refine ⟨false, hx, ?_⟩
  simp only [Bool.not_false, if_true]
  exact ⟨le4, by show 1 ≤ 16777216; decide, trivial, rfl⟩
/-! ### told_ok -/
theorem is_int_T (k : Int) (h : Hs) : (run (Pg G) (n + 1) 9 [.int k] h).T fun d h' => h' = h ∧ d = .bl true := by
  refine run_T rfl rfl ?_
  show (exSs _ f9 [some (.int k)] h).T _ _ _ _
  unfold f9
  simp only [T_cons, T_nil, T_asg, T_ex, T_iff, T_ret, T_brk, T_cnt, TE_c, TE_v, TE_tup, TE_lst, TE_dct, TE_bin, TE_cmp, TE_ite, TE_and, TE_or, TE_not, TE_neg, TE_ix, TE_sl, TO_none, TO_some, TE_call, TE_bi, TE_mt, TE_isi, TEs_nil, TEs_cons, TKV_nil, TKV_cons, TI_seq, TI_rng1, TI_rng2, TT_nm, TT_tp, TT_sub, TTs_nil, TTs_cons, TB_cmp, TB_isi, TB_not, TB_and, TB_or, TB_ite, TC_nil, TC_cons, Res.T_ok, List.getElem?_cons_succ, List.getElem?_cons_zero, List.set_cons_succ, List.set_cons_zero, Option.some.injEq, exists_eq_left', D.int.injEq, D.str.injEq, D.bl.injEq, D.tup.injEq]
  refine ⟨true, rfl, true, rfl, ?_⟩
  rw [if_pos rfl]
  exact ⟨false, rfl, trivial, rfl⟩
def Tok4 (d : D) : Prop := ∃ (a b : S) (i j : Int), d = .tup [.str a, .str b, .int i, .int j]
theorem truths_true : ∀ k : Nat, truths (List.replicate k (.bl true)) = some (List.replicate k true)
  | 0 => rfl
  | k + 1 => by
    rw [List.replicate_succ, List.replicate_succ]
    unfold truths
    rw [truths_true k]
    rfl
theorem told_ok_T (ws : List D) (hw : ∀ d ∈ ws, Tok4 d) (hl : ws.length ≤ L) (h : Hs) : (run (Pg G) (n + 2) 29 [.tup ws] h).T fun d h' => (∃ g, h' = h ++ g) ∧ d = .bl true := by
  refine run_T rfl rfl ?_
  show (exSs _ f29 [some (.tup ws), none] h).T _ _ _ _
  unfold f29
  simp only [T_cons, T_nil, T_asg, T_ex, T_iff, T_ret, T_brk, T_cnt, TE_c, TE_v, TE_tup, TE_lst, TE_dct, TE_bin, TE_cmp, TE_ite, TE_and, TE_or, TE_not, TE_neg, TE_ix, TE_sl, TO_none, TO_some, TE_call, TE_bi, TE_mt, TE_isi, TEs_nil, TEs_cons, TKV_nil, TKV_cons, TI_seq, TI_rng1, TI_rng2, TT_nm, TT_tp, TT_sub, TTs_nil, TTs_cons, TB_cmp, TB_isi, TB_not, TB_and, TB_or, TB_ite, TC_nil, TC_cons, Res.T_ok, List.getElem?_cons_succ, List.getElem?_cons_zero, List.set_cons_succ, List.set_cons_zero, Option.some.injEq, exists_eq_left', D.int.injEq, D.str.injEq, D.bl.injEq, D.tup.injEq]
  refine ⟨true, rfl, true, rfl, ?_⟩
  rw [if_pos rfl]
  refine T_lc (fun i acc h' => h' = h ∧ acc = List.replicate i (.bl true)) ws ?_ ?_ ?_
  · simp only [T_cons, T_nil, T_asg, T_ex, T_iff, T_ret, T_brk, T_cnt, TE_c, TE_v, TE_tup, TE_lst, TE_dct, TE_bin, TE_cmp, TE_ite, TE_and, TE_or, TE_not, TE_neg, TE_ix, TE_sl, TO_none, TO_some, TE_call, TE_bi, TE_mt, TE_isi, TEs_nil, TEs_cons, TKV_nil, TKV_cons, TI_seq, TI_rng1, TI_rng2, TT_nm, TT_tp, TT_sub, TTs_nil, TTs_cons, TB_cmp, TB_isi, TB_not, TB_and, TB_or, TB_ite, TC_nil, TC_cons, Res.T_ok, List.getElem?_cons_succ, List.getElem?_cons_zero, List.set_cons_succ, List.set_cons_zero, Option.some.injEq, exists_eq_left', D.int.injEq, D.str.injEq, D.bl.injEq, D.tup.injEq]
    exact ⟨_, rfl, rfl, trivial, rfl⟩
  · rintro i d acc h' hd ⟨rfl, rfl⟩
    obtain ⟨a, b, j, k, rfl⟩ := hw d (List.mem_of_getElem? hd)
    have hi : i < ws.length := (List.getElem?_eq_some_iff.mp hd).1
    simp only [T_cons, T_nil, T_asg, T_ex, T_iff, T_ret, T_brk, T_cnt, TE_c, TE_v, TE_tup, TE_lst, TE_dct, TE_bin, TE_cmp, TE_ite, TE_and, TE_or, TE_not, TE_neg, TE_ix, TE_sl, TO_none, TO_some, TE_call, TE_bi, TE_mt, TE_isi, TEs_nil, TEs_cons, TKV_nil, TKV_cons, TI_seq, TI_rng1, TI_rng2, TT_nm, TT_tp, TT_sub, TTs_nil, TTs_cons, TB_cmp, TB_isi, TB_not, TB_and, TB_or, TB_ite, TC_nil, TC_cons, Res.T_ok, List.getElem?_cons_succ, List.getElem?_cons_zero, List.set_cons_succ, List.set_cons_zero, Option.some.injEq, exists_eq_left', D.int.injEq, D.str.injEq, D.bl.injEq, D.tup.injEq, wipeE, builtin, biLen, if_true]
    refine ⟨true, rfl, true, rfl, ?_⟩
    rw [if_pos rfl]
    refine ⟨true, rfl, true, rfl, ?_⟩
    rw [if_pos rfl]
    refine ⟨.int j, rfl, (is_int_T j h').mono fun x h1 ⟨e1, e2⟩ => ?_⟩
    subst e1 e2
    refine ⟨true, rfl, ?_⟩
    rw [if_pos rfl]
    refine ⟨.int k, rfl, (is_int_T k h1).mono fun x h2 ⟨e1, e2⟩ => ?_⟩
    subst e1 e2
    exact ⟨by rw [List.length_replicate]; omega, rfl, List.replicate_succ'.symm⟩
  · rintro acc h' ⟨rfl, rfl⟩
    simp only [builtin, biAll, seqOf, List.getElem?_concat_length, truths_true]
    refine ⟨⟨_, rfl⟩, ?_⟩
    congr 1
    simp
end HD
end

section
set_option linter.all false
set_option maxRecDepth 100000
set_option maxHeartbeats 1000000
/-! MW4: the law's own words. -/
namespace HD
open MI
variable {G : List D → Hs → Res D} {n : Nat}
abbrev wMany : IS := .whl (.and (.cmp .lt (.bin .add (.v 7) (.v 8)) (.bi .len (.cons (.v 6) .nil))) (.cmp .in_ (.ix (.v 6) (.bin .add (.v 7) (.v 8))) (.v 10))) (.cons (.asg (.nm 8) (.bin .add (.v 8) (.c (.int (1))))) .nil)
theorem wMany_T {κ : Orc} (hκ : κ.it = itω) (x sg : S) (a m : Nat) (s0 s1 s2 s3 s4 s5 s9 s11 : Option D) (h : Hs) (rt : D → Hs → Prop) (bk ct : Env → Hs → Prop) :
    (exS κ wMany [s0, s1, s2, s3, s4, s5, some (.str x), some (.int (a : Int)), some (.int (m : Int)), s9, some (.str sg), s11] h).T
      (fun σ' h' => h' = h ∧ σ' = [s0, s1, s2, s3, s4, s5, some (.str x), some (.int (a : Int)), some (.int ((m + tw sg (x.drop (a + m)) : Nat) : Int)), s9, some (.str sg), s11]) rt bk ct := by
  refine T_whl hκ (fun σ h' => h' = h ∧ ∃ e : Nat, σ = [s0, s1, s2, s3, s4, s5, some (.str x), some (.int (a : Int)), some (.int (e : Int)), s9, some (.str sg), s11] ∧ e + tw sg (x.drop (a + e)) = m + tw sg (x.drop (a + m))) (fun σ h' => match σ with
    | [_, _, _, _, _, _, _, _, some (.int e), _, _, _] => x.length - (a + e.toNat)
    | _ => 0) ⟨rfl, m, rfl, rfl⟩ ?_
  rintro σ h' ⟨rfl, e, rfl, he⟩
  simp only [T_cons, T_nil, T_asg, T_ex, T_iff, T_ret, T_brk, T_cnt, TE_c, TE_v, TE_tup, TE_lst, TE_dct, TE_bin, TE_cmp, TE_ite, TE_and, TE_or, TE_not, TE_neg, TE_ix, TE_sl, TO_none, TO_some, TE_call, TE_bi, TE_mt, TE_isi, TEs_nil, TEs_cons, TKV_nil, TKV_cons, TI_seq, TI_rng1, TI_rng2, TT_nm, TT_tp, TT_sub, TTs_nil, TTs_cons, TB_cmp, TB_isi, TB_not, TB_and, TB_or, TB_ite, TC_nil, TC_cons, Res.T_ok, List.getElem?_cons_succ, List.getElem?_cons_zero, List.set_cons_succ, List.set_cons_zero, Option.some.injEq, exists_eq_left', D.int.injEq, D.str.injEq, D.bl.injEq, D.tup.injEq, builtin, biLen, cmpop, ltI, binop, addD]
  have ea : (a : Int) + (e : Int) = ((a + e : Nat) : Int) := by omega
  simp only [ea]
  by_cases hl : a + e < x.length
  · rw [if_pos (decide_eq_true (by omega))]
    refine ⟨_, index_str hl, _, rfl, ?_⟩
    by_cases hc : x[a + e] ∈ sg
    · rw [if_pos (by simpa using hc)]
      refine ⟨⟨trivial, e + 1, ?_, ?_⟩, ?_⟩
      · simp
      · rw [tw_hit hl hc] at he
        rw [show a + (e + 1) = a + e + 1 by omega]
        omega
      · show x.length - (a + ((e : Int) + 1).toNat) < x.length - (a + (e : Int).toNat)
        omega
    · rw [if_neg (by simpa using hc)]
      rw [tw_miss hl hc] at he
      refine ⟨trivial, ?_⟩
      rw [show e = m + tw sg (x.drop (a + m)) by omega]
  · rw [if_neg (fun z => absurd (of_decide_eq_true z) (by omega)), if_neg (by decide)]
    rw [tw_end (by omega)] at he
    refine ⟨trivial, ?_⟩
    rw [show e = m + tw sg (x.drop (a + m)) by omega]
abbrev wOut : IS := .whl (.and (.cmp .lt (.v 7) (.bi .len (.cons (.v 6) .nil))) (.cmp .ne (.ix (.v 6) (.v 7)) (.c (.str [35])))) (.cons (.asg (.tp (.cons (.nm 8) (.cons (.nm 9) .nil))) (.tup (.cons (.c (.int (1))) (.cons (.c (.str [115, 105, 103, 110])) .nil)))) (.cons (.iff (.cmp .in_ (.ix (.v 6) (.v 7)) (.bin .add (.v 3) (.v 4))) (.cons (.asg (.nm 10) (.ite (.cmp .in_ (.ix (.v 6) (.v 7)) (.v 3)) (.bin .add (.bin .add (.v 3) (.v 4)) (.c (.str [95]))) (.v 4))) (.cons (.whl (.and (.cmp .lt (.bin .add (.v 7) (.v 8)) (.bi .len (.cons (.v 6) .nil))) (.cmp .in_ (.ix (.v 6) (.bin .add (.v 7) (.v 8))) (.v 10))) (.cons (.asg (.nm 8) (.bin .add (.v 8) (.c (.int (1))))) .nil)) (.cons (.asg (.nm 11) (.cmp .in_ (.sl (.v 6) (.some (.v 7)) (.some (.bin .add (.v 7) (.v 8)))) (.mt .split (.c (.str [97, 110, 100, 32, 97, 115, 107, 32, 102, 101, 110, 99, 101, 32, 112, 108, 97, 99, 101, 32, 114, 97, 32, 115, 99, 32, 115, 119, 97, 112, 32, 116, 104, 114, 101, 97, 100, 32, 116, 115, 111])) (.cons (.c (.str [32])) .nil)))) (.cons (.asg (.nm 9) (.ite (.cmp .in_ (.ix (.v 6) (.v 7)) (.v 4)) (.c (.str [110, 117, 109, 98, 101, 114])) (.ite (.v 11) (.c (.str [111, 119, 110])) (.c (.str [110, 97, 109, 101]))))) (.cons (.iff (.cmp .gt (.v 8) (.ite (.cmp .eq (.v 9) (.c (.str [110, 117, 109, 98, 101, 114]))) (.c (.int (1))) (.c (.int (12))))) (.cons (.ret (.bin .add (.v 5) (.lst (.cons (.tup (.cons (.c (.str [98, 97, 100])) (.cons (.c (.str [119, 111, 114, 100])) (.cons (.v 2) (.cons (.v 7) .nil))))) .nil)))) .nil) .nil) .nil))))) (.cons (.iff (.cmp .nin (.ix (.v 6) (.v 7)) (.c (.str [61, 59, 58, 44, 46, 123, 125, 32]))) (.cons (.ret (.bin .add (.v 5) (.lst (.cons (.tup (.cons (.c (.str [98, 97, 100])) (.cons (.c (.str [115, 105, 103, 110])) (.cons (.v 2) (.cons (.v 7) .nil))))) .nil)))) .nil) .nil) .nil)) (.cons (.iff (.cmp .ne (.ix (.v 6) (.v 7)) (.c (.str [32]))) (.cons (.ex (.mt .append (.v 5) (.cons (.tup (.cons (.v 9) (.cons (.sl (.v 6) (.some (.v 7)) (.some (.bin .add (.v 7) (.v 8)))) (.cons (.v 2) (.cons (.v 7) .nil))))) .nil))) .nil) .nil) (.cons (.asg (.nm 7) (.bin .add (.v 7) (.v 8))) .nil))))
theorem at0g {h0 : Hs} {a : MO} {r : Hs} : (h0 ++ a :: r)[h0.length]? = some a := by simp
theorem set0g {h0 : Hs} {a c : MO} {r : Hs} : (h0 ++ a :: r).set h0.length c = h0 ++ c :: r := by simp
theorem at1g {h0 : Hs} {a b : MO} {r : Hs} : (h0 ++ a :: b :: r)[h0.length + 1]? = some b := by
  rw [List.getElem?_append_right (by omega)]
  simp
theorem add_LF {h : Hs} : addD (.str LET) (.str FIG) h = .ok (.str (LET ++ FIG)) h := by
  show (if LET.length + FIG.length ≤ L then Res.ok (D.str (LET ++ FIG)) h else .stuck) = _
  rw [if_pos (by show 62 ≤ 16777216; decide)]
end HD
end

section
set_option linter.all false
set_option maxRecDepth 100000
set_option maxHeartbeats 1000000
/-! MW5: the law's own words: which word stands at a. -/
namespace HD
open MI
variable {G : List D → Hs → Res D} {n : Nat}
abbrev cls : IS := .iff (.cmp .in_ (.ix (.v 6) (.v 7)) (.bin .add (.v 3) (.v 4))) (.cons (.asg (.nm 10) (.ite (.cmp .in_ (.ix (.v 6) (.v 7)) (.v 3)) (.bin .add (.bin .add (.v 3) (.v 4)) (.c (.str [95]))) (.v 4))) (.cons (.whl (.and (.cmp .lt (.bin .add (.v 7) (.v 8)) (.bi .len (.cons (.v 6) .nil))) (.cmp .in_ (.ix (.v 6) (.bin .add (.v 7) (.v 8))) (.v 10))) (.cons (.asg (.nm 8) (.bin .add (.v 8) (.c (.int (1))))) .nil)) (.cons (.asg (.nm 11) (.cmp .in_ (.sl (.v 6) (.some (.v 7)) (.some (.bin .add (.v 7) (.v 8)))) (.mt .split (.c (.str [97, 110, 100, 32, 97, 115, 107, 32, 102, 101, 110, 99, 101, 32, 112, 108, 97, 99, 101, 32, 114, 97, 32, 115, 99, 32, 115, 119, 97, 112, 32, 116, 104, 114, 101, 97, 100, 32, 116, 115, 111])) (.cons (.c (.str [32])) .nil)))) (.cons (.asg (.nm 9) (.ite (.cmp .in_ (.ix (.v 6) (.v 7)) (.v 4)) (.c (.str [110, 117, 109, 98, 101, 114])) (.ite (.v 11) (.c (.str [111, 119, 110])) (.c (.str [110, 97, 109, 101]))))) (.cons (.iff (.cmp .gt (.v 8) (.ite (.cmp .eq (.v 9) (.c (.str [110, 117, 109, 98, 101, 114]))) (.c (.int (1))) (.c (.int (12))))) (.cons (.ret (.bin .add (.v 5) (.lst (.cons (.tup (.cons (.c (.str [98, 97, 100])) (.cons (.c (.str [119, 111, 114, 100])) (.cons (.v 2) (.cons (.v 7) .nil))))) .nil)))) .nil) .nil) .nil))))) (.cons (.iff (.cmp .nin (.ix (.v 6) (.v 7)) (.c (.str [61, 59, 58, 44, 46, 123, 125, 32]))) (.cons (.ret (.bin .add (.v 5) (.lst (.cons (.tup (.cons (.c (.str [98, 97, 100])) (.cons (.c (.str [115, 105, 103, 110])) (.cons (.v 2) (.cons (.v 7) .nil))))) .nil)))) .nil) .nil) .nil)
theorem let_fig : ∀ c ∈ LET, c ∉ FIG := by decide
theorem let_sgn : ∀ c ∈ LET, c ∈ SGN := by decide
theorem let_one : ∀ c ∈ ONE, c ∉ LET ∧ c ∉ FIG := by decide
theorem wd_len {sg x : S} {a : Nat} (ha : a < x.length) (hc : x[a] ∈ sg) : (wd sg x a).length = 1 + tw sg (x.drop (a + 1)) := by
  show tw sg (x.drop a) = _
  rw [tw_hit ha hc]; omega
theorem cut_many {sg x : S} {a : Nat} (ha : a < x.length) (hc : x[a] ∈ sg) : cut x (some (a : Int)) (some ((a : Int) + ((1 + tw sg (x.drop (a + 1)) : Nat) : Int))) = wd sg x a := by
  rw [← cut_wd (Nat.le_of_lt ha), tw_hit ha hc]
  congr 2
  omega
def ownT : S := [97, 110, 100, 32, 97, 115, 107, 32, 102, 101, 110, 99, 101, 32, 112, 108, 97, 99, 101, 32, 114, 97, 32, 115, 99, 32, 115, 119, 97, 112, 32, 116, 104, 114, 101, 97, 100, 32, 116, 115, 111]
theorem ownT_lit : ([97, 110, 100, 32, 97, 115, 107, 32, 102, 101, 110, 99, 101, 32, 112, 108, 97, 99, 101, 32, 114, 97, 32, 115, 99, 32, 115, 119, 97, 112, 32, 116, 104, 114, 101, 97, 100, 32, 116, 115, 111] : S) = ownT := rfl
theorem cut_one {x : S} {a : Nat} (ha : a < x.length) : cut x (some (a : Int)) (some ((a : Int) + ((1 : Nat) : Int))) = [x[a]] := by
  unfold cut cl
  simp only [if_pos (show (0 : Int) ≤ ((a : Nat) : Int) by omega), if_pos (show (0 : Int) ≤ (a : Int) + ((1 : Nat) : Int) by omega), Int.toNat_natCast]
  rw [show ((a : Int) + ((1 : Nat) : Int)).toNat = a + 1 by omega, show min a x.length = a from Nat.min_eq_left (by omega), show min (a + 1) x.length = a + 1 from Nat.min_eq_left (by omega), List.drop_take, show a + 1 - a = 1 by omega, List.drop_eq_getElem_cons ha]
  rfl
/-- found + [item] -/
theorem more_T {h0 : Hs} {xs : List D} {r : Hs} {d : D} {g : Hs} {Q : D → Hs → Prop} (hL : xs.length ≤ 4194304) (q : Q (.ref (h0 ++ MO.lst xs :: (r ++ g ++ [MO.lst [d]])).length) (h0 ++ MO.lst xs :: (r ++ g ++ [MO.lst [d]]) ++ [MO.lst (xs ++ [d])])) :
    (addD (.ref h0.length) (.ref (h0 ++ MO.lst xs :: (r ++ g)).length) (h0 ++ MO.lst xs :: (r ++ g) ++ [MO.lst [d]])).T Q := by
  have e : h0 ++ MO.lst xs :: (r ++ g) ++ [MO.lst [d]] = h0 ++ MO.lst xs :: (r ++ g ++ [MO.lst [d]]) := by simp
  have e1 : (h0 ++ MO.lst xs :: (r ++ g) ++ [MO.lst [d]])[(h0 ++ MO.lst xs :: (r ++ g)).length]? = some (MO.lst [d]) := List.getElem?_concat_length ..
  have e0 : (h0 ++ MO.lst xs :: (r ++ g) ++ [MO.lst [d]])[h0.length]? = some (MO.lst xs) := by rw [e]; exact at0g
  unfold addD
  simp only [e0, e1]
  unfold newL
  rw [if_pos (by rw [List.length_append]; show xs.length + 1 ≤ 16777216; omega)]
  rw [e]
  exact q
theorem own_split {h : Hs} : method .split (.str ownT) [.str [32]] h = .ok (.ref h.length) (h ++ [MO.lst (OWN.map D.str)]) := by
  show (if ownT.length + 2 ≤ L ∧ 32 < 256 then new (MO.lst (List.map D.str (splitOn 32 ownT))) h else .stuck) = _
  rw [if_pos ⟨by show 43 ≤ 16777216; decide, by decide⟩]
  rfl
theorem isIn_own {h : Hs} {w : S} : isIn (.str w) (.ref h.length) (h ++ [MO.lst (OWN.map D.str)]) = some (decide (w ∈ OWN)) := by
  show (match seqOf (h ++ [MO.lst (OWN.map D.str)]) h.length with
    | some ds => inItems (h ++ [MO.lst (OWN.map D.str)]) (.str w) ds
    | none => none) = _
  simp only [seqOf, List.getElem?_concat_length]
  exact isIn_strs (h := h ++ [MO.lst (OWN.map D.str)]) OWN
theorem add_S {h : Hs} : addD (.str (LET ++ FIG)) (.str [95]) h = .ok (.str SGN) h := by
  show (if (LET ++ FIG).length + 1 ≤ L then Res.ok (D.str SGN) h else .stuck) = _
  rw [if_pos (by show 63 ≤ 16777216; decide)]
theorem add_ii {i j : Int} {h : Hs} : addD (.int i) (.int j) h = .ok (.int (i + j)) h := rfl
/-- what stands at a: not bad, or a blank; else the list of all with the bad one -/
theorem cls_T {κ : Orc} (hκ : κ.it = itω) (h0 : Hs) (s0 s1 s10 s11 : Option D) (xs : List D) (r : Hs) (num : Nat) (x : S) (a : Nat) (ha : a < x.length) (hL : xs.length ≤ 4194304) (bk ct : Env → Hs → Prop) :
    (exS κ cls [s0, s1, some (.int (num : Int)), some (.str LET), some (.str FIG), some (.ref h0.length), some (.str x), some (.int (a : Int)), some (.int 1), some (.str sSign), s10, s11] (h0 ++ .lst xs :: r)).T
      (fun σ' h' => (∃ g, h' = h0 ++ .lst xs :: (r ++ g)) ∧ ∃ (w : S) (m : Nat) (s10 s11 : Option D), σ' = [s0, s1, some (.int (num : Int)), some (.str LET), some (.str FIG), some (.ref h0.length), some (.str x), some (.int (a : Int)), some (.int (m : Int)), some (.str w), s10, s11] ∧
        ((x[a] = 32 ∧ m = 1) ∨ (x[a] ≠ 32 ∧ (wfrom x a).1 ≠ sBad ∧ w = (wfrom x a).1 ∧ m = (wfrom x a).2.length ∧ cut x (some (a : Int)) (some ((a : Int) + (m : Int))) = (wfrom x a).2)))
      (fun d h' => x[a] ≠ 32 ∧ (wfrom x a).1 = sBad ∧ ∃ k, d = .ref k ∧ h'[k]? = some (.lst (xs ++ [tk (wfrom x a) num a])) ∧ ∃ g, h' = h0 ++ g) bk ct := by
  rw [T_iff, TB_cmp]
  simp only [T_cons, T_nil, T_asg, T_ex, T_iff, T_ret, T_brk, T_cnt, TE_c, TE_v, TE_tup, TE_lst, TE_dct, TE_bin, TE_cmp, TE_ite, TE_and, TE_or, TE_not, TE_neg, TE_ix, TE_sl, TO_none, TO_some, TE_call, TE_bi, TE_mt, TE_isi, TEs_nil, TEs_cons, TKV_nil, TKV_cons, TI_seq, TI_rng1, TI_rng2, TT_nm, TT_tp, TT_sub, TTs_nil, TTs_cons, TB_cmp, TB_isi, TB_not, TB_and, TB_or, TB_ite, TC_nil, TC_cons, Res.T_ok, List.getElem?_cons_succ, List.getElem?_cons_zero, List.set_cons_succ, List.set_cons_zero, Option.some.injEq, exists_eq_left', D.int.injEq, D.str.injEq, D.bl.injEq, D.tup.injEq, cmpop, binop, add_LF]
  refine ⟨_, index_str ha, _, isIn_ch (h := h0), ?_⟩
  have ew : wfrom x a = if x[a] ∈ LET then lword x a
    else if x[a] ∈ FIG then (if (wd FIG x a).length = 1 then (sNum, wd FIG x a) else (sBad, sWord))
    else if x[a] ∈ ONE then (sSign, [x[a]]) else (sBad, sSign) := by
    unfold wfrom
    rw [List.getElem?_eq_getElem ha]
  by_cases h1 : x[a] ∈ LET ++ FIG
  · rw [if_pos (decide_eq_true h1)]
    have hn : x[a] ≠ 32 := fun z => by rw [z] at h1; revert h1; decide
    refine ⟨_, index_str ha, _, isIn_ch (h := h0), ?_⟩
    by_cases h2 : x[a] ∈ LET
    · rw [if_pos (decide_eq_true h2), add_S]
      rw [if_pos h2] at ew
      have h3 := let_fig _ h2
      have hs := let_sgn _ h2
      simp only [Res.T_ok]
      refine (wMany_T hκ x SGN a 1 _ _ _ _ _ _ _ _ _ _ _ _).mono ?_ (fun _ _ q => q) (fun _ _ q => q) (fun _ _ q => q)
      rintro σ' h' ⟨rfl, rfl⟩
      rw [← wd_len ha hs]
      have hcut : cut x (some (a : Int)) (some ((a : Int) + ((wd SGN x a).length : Int))) = wd SGN x a := by rw [wd_len ha hs]; exact cut_many ha hs
      simp only [T_cons, T_nil, T_asg, T_ex, T_iff, T_ret, T_brk, T_cnt, TE_c, TE_v, TE_tup, TE_lst, TE_dct, TE_bin, TE_cmp, TE_ite, TE_and, TE_or, TE_not, TE_neg, TE_ix, TE_sl, TO_none, TO_some, TE_call, TE_bi, TE_mt, TE_isi, TEs_nil, TEs_cons, TKV_nil, TKV_cons, TI_seq, TI_rng1, TI_rng2, TT_nm, TT_tp, TT_sub, TTs_nil, TTs_cons, TB_cmp, TB_isi, TB_not, TB_and, TB_or, TB_ite, TC_nil, TC_cons, Res.T_ok, List.getElem?_cons_succ, List.getElem?_cons_zero, List.set_cons_succ, List.set_cons_zero, Option.some.injEq, exists_eq_left', D.int.injEq, D.str.injEq, D.bl.injEq, D.tup.injEq, add_ii, slice, hcut, ownT_lit, own_split, isIn_own, index_str ha, isIn_ch, FIG_lit]
      have eh : h0 ++ MO.lst xs :: r ++ [MO.lst (List.map D.str OWN)] = h0 ++ MO.lst xs :: (r ++ [MO.lst (List.map D.str OWN)]) := by simp
      rw [eh]
      refine ⟨rfl, ?_⟩
      rw [if_neg (fun z => h3 (of_decide_eq_true z)), TB_of]
      simp only [T_cons, T_nil, T_asg, T_ex, T_iff, T_ret, T_brk, T_cnt, TE_c, TE_v, TE_tup, TE_lst, TE_dct, TE_bin, TE_cmp, TE_ite, TE_and, TE_or, TE_not, TE_neg, TE_ix, TE_sl, TO_none, TO_some, TE_call, TE_bi, TE_mt, TE_isi, TEs_nil, TEs_cons, TKV_nil, TKV_cons, TI_seq, TI_rng1, TI_rng2, TT_nm, TT_tp, TT_sub, TTs_nil, TTs_cons, TB_cmp, TB_isi, TB_not, TB_and, TB_or, TB_ite, TC_nil, TC_cons, Res.T_ok, List.getElem?_cons_succ, List.getElem?_cons_zero, List.set_cons_succ, List.set_cons_zero, Option.some.injEq, exists_eq_left', D.int.injEq, D.str.injEq, D.bl.injEq, D.tup.injEq]
      refine ⟨decide (wd SGN x a ∈ OWN), rfl, ?_⟩
      by_cases ho : wd SGN x a ∈ OWN
      · rw [if_pos (decide_eq_true ho)]
        refine ⟨false, rfl, ?_⟩
        rw [if_neg (by decide)]
        refine ⟨_, rfl, ?_⟩
        by_cases h12 : 12 < (wd SGN x a).length
        · have el : wfrom x a = (sBad, sWord) := by rw [ew]; unfold lword; rw [if_pos h12]
          rw [if_pos (decide_eq_true (by omega))]
          refine ⟨le4, by show 1 ≤ 16777216; decide, ?_⟩
          refine (@more_T h0 xs r (tk (sBad, sWord) num a) [MO.lst (OWN.map D.str)]) hL ⟨hn, by rw [el], _, rfl, ?_, ?_⟩
          · rw [List.getElem?_concat_length, el]
          · exact ⟨_, List.append_assoc ..⟩
        · have el : wfrom x a = (sOwn, wd SGN x a) := by rw [ew]; unfold lword; rw [if_neg h12, if_pos ho]
          rw [if_neg (fun z => absurd (of_decide_eq_true z) (by omega))]
          refine ⟨⟨_, rfl⟩, sOwn, (wd SGN x a).length, _, _, rfl, .inr ⟨hn, by rw [el]; show sOwn ≠ sBad; decide, by rw [el], by rw [el], ?_⟩⟩
          rw [el]
          exact hcut
      · rw [if_neg (fun z => ho (of_decide_eq_true z))]
        refine ⟨false, rfl, ?_⟩
        rw [if_neg (by decide)]
        refine ⟨_, rfl, ?_⟩
        by_cases h12 : 12 < (wd SGN x a).length
        · have el : wfrom x a = (sBad, sWord) := by rw [ew]; unfold lword; rw [if_pos h12]
          rw [if_pos (decide_eq_true (by omega))]
          refine ⟨le4, by show 1 ≤ 16777216; decide, ?_⟩
          refine (@more_T h0 xs r (tk (sBad, sWord) num a) [MO.lst (OWN.map D.str)]) hL ⟨hn, by rw [el], _, rfl, ?_, ?_⟩
          · rw [List.getElem?_concat_length, el]
          · exact ⟨_, List.append_assoc ..⟩
        · have el : wfrom x a = (sName, wd SGN x a) := by rw [ew]; unfold lword; rw [if_neg h12, if_neg ho]
          rw [if_neg (fun z => absurd (of_decide_eq_true z) (by omega))]
          refine ⟨⟨_, rfl⟩, sName, (wd SGN x a).length, _, _, rfl, .inr ⟨hn, by rw [el]; show sName ≠ sBad; decide, by rw [el], by rw [el], ?_⟩⟩
          rw [el]
          exact hcut
    · rw [if_neg (fun z => h2 (of_decide_eq_true z))]
      have hs : x[a] ∈ FIG := by
        rcases List.mem_append.mp h1 with z | z
        · exact absurd z h2
        · exact z
      rw [if_neg h2, if_pos hs] at ew
      refine (wMany_T hκ x FIG a 1 _ _ _ _ _ _ _ _ _ _ _ _).mono ?_ (fun _ _ q => q) (fun _ _ q => q) (fun _ _ q => q)
      rintro σ' h' ⟨rfl, rfl⟩
      rw [← wd_len ha hs]
      have hcut : cut x (some (a : Int)) (some ((a : Int) + ((wd FIG x a).length : Int))) = wd FIG x a := by rw [wd_len ha hs]; exact cut_many ha hs
      simp only [T_cons, T_nil, T_asg, T_ex, T_iff, T_ret, T_brk, T_cnt, TE_c, TE_v, TE_tup, TE_lst, TE_dct, TE_bin, TE_cmp, TE_ite, TE_and, TE_or, TE_not, TE_neg, TE_ix, TE_sl, TO_none, TO_some, TE_call, TE_bi, TE_mt, TE_isi, TEs_nil, TEs_cons, TKV_nil, TKV_cons, TI_seq, TI_rng1, TI_rng2, TT_nm, TT_tp, TT_sub, TTs_nil, TTs_cons, TB_cmp, TB_isi, TB_not, TB_and, TB_or, TB_ite, TC_nil, TC_cons, Res.T_ok, List.getElem?_cons_succ, List.getElem?_cons_zero, List.set_cons_succ, List.set_cons_zero, Option.some.injEq, exists_eq_left', D.int.injEq, D.str.injEq, D.bl.injEq, D.tup.injEq, add_ii, slice, hcut, ownT_lit, own_split, isIn_own, index_str ha, isIn_ch, FIG_lit]
      have eh : h0 ++ MO.lst xs :: r ++ [MO.lst (List.map D.str OWN)] = h0 ++ MO.lst xs :: (r ++ [MO.lst (List.map D.str OWN)]) := by simp
      rw [eh]
      refine ⟨rfl, ?_⟩
      rw [if_pos (decide_eq_true hs)]
      refine ⟨true, rfl, ?_⟩
      rw [if_pos rfl]
      refine ⟨_, rfl, ?_⟩
      by_cases h12 : (wd FIG x a).length = 1
      · have el : wfrom x a = (sNum, wd FIG x a) := by rw [ew, if_pos h12]
        rw [if_neg (fun z => absurd (of_decide_eq_true z) (by omega))]
        refine ⟨⟨_, rfl⟩, sNum, (wd FIG x a).length, _, _, rfl, .inr ⟨hn, by rw [el]; show sNum ≠ sBad; decide, by rw [el], by rw [el], ?_⟩⟩
        rw [el]
        exact hcut
      · have el : wfrom x a = (sBad, sWord) := by rw [ew, if_neg h12]
        have hpos := wd_len ha hs
        rw [if_pos (decide_eq_true (by omega))]
        refine ⟨le4, by show 1 ≤ 16777216; decide, ?_⟩
        refine (@more_T h0 xs r (tk (sBad, sWord) num a) [MO.lst (OWN.map D.str)]) hL ⟨hn, by rw [el], _, rfl, ?_, ?_⟩
        · rw [List.getElem?_concat_length, el]
        · exact ⟨_, List.append_assoc ..⟩
  · rw [if_neg (fun z => h1 (of_decide_eq_true z))]
    have h2 : x[a] ∉ LET := fun z => h1 (List.mem_append_left _ z)
    have h3 : x[a] ∉ FIG := fun z => h1 (List.mem_append_right _ z)
    rw [if_neg h2, if_neg h3] at ew
    refine ⟨_, index_str ha, _, rfl, ?_⟩
    by_cases h4 : x[a] ∈ ONE
    · have hn : x[a] ≠ 32 := fun z => by rw [z] at h4; revert h4; decide
      have hd : decide (x[a] ∈ ([61, 59, 58, 44, 46, 123, 125, 32] : S)) = true := decide_eq_true (List.mem_append_left [32] h4)
      rw [if_pos h4] at ew
      rw [if_neg (by show ¬ (!decide (x[a] ∈ ([61, 59, 58, 44, 46, 123, 125, 32] : S))) = true; rw [hd]; decide)]
      refine ⟨⟨[], by simp⟩, sSign, 1, s10, s11, rfl, .inr ⟨hn, by rw [ew]; show sSign ≠ sBad; decide, by rw [ew], by rw [ew]; rfl, ?_⟩⟩
      rw [ew]
      exact cut_one ha
    · rw [if_neg h4] at ew
      by_cases h5 : x[a] = 32
      · have hd : decide (x[a] ∈ ([61, 59, 58, 44, 46, 123, 125, 32] : S)) = true := by rw [h5]; decide
        rw [if_neg (by show ¬ (!decide (x[a] ∈ ([61, 59, 58, 44, 46, 123, 125, 32] : S))) = true; rw [hd]; decide)]
        exact ⟨⟨[], by simp⟩, sSign, 1, s10, s11, rfl, .inl ⟨h5, rfl⟩⟩
      · have hd : decide (x[a] ∈ ([61, 59, 58, 44, 46, 123, 125, 32] : S)) = false := decide_eq_false fun z => by
          rcases List.mem_append.mp (show x[a] ∈ ONE ++ [32] from z) with z | z
          · exact h4 z
          · exact h5 (List.mem_singleton.mp z)
        rw [if_pos (by show (!decide (x[a] ∈ ([61, 59, 58, 44, 46, 123, 125, 32] : S))) = true; rw [hd]; rfl)]
        refine ⟨le4, by show 1 ≤ 16777216; decide, ?_⟩
        have m := @more_T h0 xs r (tk (sBad, sSign) num a) []
        rw [List.append_nil] at m
        refine m hL ⟨h5, by rw [ew], _, rfl, ?_, ?_⟩
        · rw [List.getElem?_concat_length, ew]
        · exact ⟨_, List.append_assoc ..⟩
end HD
end

section
set_option linter.all false
set_option maxRecDepth 100000
set_option maxHeartbeats 1000000
/-! MW6: the law's own words of a line, of a text. -/
namespace HD
open MI
variable {G : List D → Hs → Res D} {n : Nat}
theorem wOut_T (h0 : Hs) (T : D) (k1 : Nat) (acc : List D) (l : MO) (g : Hs) (num : Nat) (x : S) (s8 s9 s10 s11 : Option D) (bk ct : Env → Hs → Prop) (hL : acc.length + x.length ≤ 2097152) :
    (exS ⟨run (Pg G) (n + 1), itω⟩ wOut [some T, some (.ref k1), some (.int (num : Int)), some (.str LET), some (.str FIG), some (.ref h0.length), some (.str x), some (.int (0 : Nat)), s8, s9, s10, s11] (h0 ++ .lst acc :: l :: g)).T
      (fun σ' h' => (lineW num x 0).2 = false ∧ (∃ g', h' = h0 ++ .lst (acc ++ (lineW num x 0).1) :: l :: g') ∧ ∃ s6 s7 s8 s9 s10 s11, σ' = [some T, some (.ref k1), some (.int (num : Int)), some (.str LET), some (.str FIG), some (.ref h0.length), s6, s7, s8, s9, s10, s11])
      (fun d h' => (lineW num x 0).2 = true ∧ ∃ r, d = .ref r ∧ h'[r]? = some (.lst (acc ++ (lineW num x 0).1)) ∧ ∃ g', h' = h0 ++ g') bk ct := by
  refine T_whl rfl (fun σ h => ∃ (a : Nat) (s8 s9 s10 s11 : Option D) (acc' : List D) (g : Hs), σ = [some T, some (.ref k1), some (.int (num : Int)), some (.str LET), some (.str FIG), some (.ref h0.length), some (.str x), some (.int (a : Int)), s8, s9, s10, s11] ∧ h = h0 ++ .lst (acc ++ acc') :: l :: g ∧ acc' ++ (lineW num x a).1 = (lineW num x 0).1 ∧ (lineW num x a).2 = (lineW num x 0).2)
    (fun σ h => match σ with
      | [_, _, _, _, _, _, _, some (.int e), _, _, _, _] => x.length - e.toNat
      | _ => 0) ⟨0, s8, s9, s10, s11, [], g, rfl, by simp, rfl, rfl⟩ ?_
  rintro σ h ⟨a, s8, s9, s10, s11, acc', g, rfl, rfl, h1, h2⟩
  rw [TB_and, TB_cmp]
  simp only [TE_c, TE_v, TE_tup, TE_lst, TE_dct, TE_bin, TE_cmp, TE_ite, TE_and, TE_or, TE_not, TE_neg, TE_ix, TE_sl, TO_none, TO_some, TE_call, TE_bi, TE_mt, TE_isi, TEs_nil, TEs_cons, TKV_nil, TKV_cons, TI_seq, TI_rng1, TI_rng2, TT_nm, TT_tp, TT_sub, TTs_nil, TTs_cons, TB_cmp, TB_isi, TB_not, TB_and, TB_or, TB_ite, TC_nil, TC_cons, Res.T_ok, List.getElem?_cons_succ, List.getElem?_cons_zero, List.set_cons_succ, List.set_cons_zero, Option.some.injEq, exists_eq_left', D.int.injEq, D.str.injEq, D.bl.injEq, D.tup.injEq, builtin, biLen, cmpop, ltI]
  have stop : lineW num x a = ([], false) → ((lineW num x 0).2 = false ∧ acc ++ acc' = acc ++ (lineW num x 0).1) := fun e => by
    rw [e] at h1 h2
    refine ⟨h2.symm, ?_⟩
    rw [← h1]; simp
  by_cases ha : a < x.length
  · rw [if_pos (decide_eq_true (by omega))]
    refine ⟨_, index_str ha, _, ne_ch (h := h0), ?_⟩
    by_cases hh : x[a] = 35
    · rw [if_neg (by simp [hh])]
      exact ⟨(stop (lineW_hash ha hh)).1, ⟨g, by rw [(stop (lineW_hash ha hh)).2]⟩, _, _, _, _, _, _, rfl⟩
    · rw [if_pos (by simp [hh])]
      rw [T_cons, T_asg]
      simp only [TE_c, TE_v, TE_tup, TE_lst, TE_dct, TE_bin, TE_cmp, TE_ite, TE_and, TE_or, TE_not, TE_neg, TE_ix, TE_sl, TO_none, TO_some, TE_call, TE_bi, TE_mt, TE_isi, TEs_nil, TEs_cons, TKV_nil, TKV_cons, TI_seq, TI_rng1, TI_rng2, TT_nm, TT_tp, TT_sub, TTs_nil, TTs_cons, TB_cmp, TB_isi, TB_not, TB_and, TB_or, TB_ite, TC_nil, TC_cons, Res.T_ok, List.getElem?_cons_succ, List.getElem?_cons_zero, List.set_cons_succ, List.set_cons_zero, Option.some.injEq, exists_eq_left', D.int.injEq, D.str.injEq, D.bl.injEq, D.tup.injEq]
      refine ⟨le2, rfl, ?_⟩
      rw [T_cons]
      have hlen := congrArg List.length h1
      rw [List.length_append] at hlen
      have hL0 := lineW_len num x x.length 0 (by omega)
      refine (cls_T rfl h0 _ _ s10 s11 (acc ++ acc') (l :: g) num x a ha (by rw [List.length_append]; omega) _ _).mono ?_ ?_ (fun _ _ q => q) (fun _ _ q => q)
      · rintro σ' h' ⟨⟨g', rfl⟩, w, m, s10, s11, rfl, hc⟩
        rw [T_cons, T_iff, TB_cmp]
        simp only [TE_c, TE_v, TE_tup, TE_lst, TE_dct, TE_bin, TE_cmp, TE_ite, TE_and, TE_or, TE_not, TE_neg, TE_ix, TE_sl, TO_none, TO_some, TE_call, TE_bi, TE_mt, TE_isi, TEs_nil, TEs_cons, TKV_nil, TKV_cons, TI_seq, TI_rng1, TI_rng2, TT_nm, TT_tp, TT_sub, TTs_nil, TTs_cons, TB_cmp, TB_isi, TB_not, TB_and, TB_or, TB_ite, TC_nil, TC_cons, Res.T_ok, List.getElem?_cons_succ, List.getElem?_cons_zero, List.set_cons_succ, List.set_cons_zero, Option.some.injEq, exists_eq_left', D.int.injEq, D.str.injEq, D.bl.injEq, D.tup.injEq, cmpop]
        refine ⟨_, index_str ha, _, ne_ch (h := h0), ?_⟩
        rcases hc with ⟨h3, rfl⟩ | ⟨h3, hb, rfl, rfl, hcut⟩
        · rw [if_neg (by simp [h3]), T_nil, T_cons, T_asg]
          simp only [TE_c, TE_v, TE_tup, TE_lst, TE_dct, TE_bin, TE_cmp, TE_ite, TE_and, TE_or, TE_not, TE_neg, TE_ix, TE_sl, TO_none, TO_some, TE_call, TE_bi, TE_mt, TE_isi, TEs_nil, TEs_cons, TKV_nil, TKV_cons, TI_seq, TI_rng1, TI_rng2, TT_nm, TT_tp, TT_sub, TTs_nil, TTs_cons, TB_cmp, TB_isi, TB_not, TB_and, TB_or, TB_ite, TC_nil, TC_cons, Res.T_ok, List.getElem?_cons_succ, List.getElem?_cons_zero, List.set_cons_succ, List.set_cons_zero, Option.some.injEq, exists_eq_left', D.int.injEq, D.str.injEq, D.bl.injEq, D.tup.injEq, T_nil, binop, add_ii]
          rw [lineW_sp ha h3] at h1 h2
          refine ⟨⟨a + 1, _, _, _, _, acc', g ++ g', rfl, rfl, h1, h2⟩, ?_⟩
          show x.length - ((a : Int) + ((1 : Nat) : Int)).toNat < x.length - (a : Int).toNat
          omega
        · rw [if_pos (by simp [h3]), T_cons, T_ex]
          simp only [TE_c, TE_v, TE_tup, TE_lst, TE_dct, TE_bin, TE_cmp, TE_ite, TE_and, TE_or, TE_not, TE_neg, TE_ix, TE_sl, TO_none, TO_some, TE_call, TE_bi, TE_mt, TE_isi, TEs_nil, TEs_cons, TKV_nil, TKV_cons, TI_seq, TI_rng1, TI_rng2, TT_nm, TT_tp, TT_sub, TTs_nil, TTs_cons, TB_cmp, TB_isi, TB_not, TB_and, TB_or, TB_ite, TC_nil, TC_cons, Res.T_ok, List.getElem?_cons_succ, List.getElem?_cons_zero, List.set_cons_succ, List.set_cons_zero, Option.some.injEq, exists_eq_left', D.int.injEq, D.str.injEq, D.bl.injEq, D.tup.injEq, binop, add_ii, slice, hcut]
          have hpos : 1 ≤ (lineW num x a).1.length := by
            rw [lineW_go ha hh h3 hb]; exact Nat.succ_le_succ (Nat.zero_le _)
          have hp := wfrom_pos ha hb
          refine ⟨?_, le4, ?_⟩
          · simp only [recv, tyOf, at0g]; rfl
          · show (mtAppend (.ref h0.length) [_] _).T _
            unfold mtAppend
            simp only [at0g, set0g]
            rw [if_pos (by rw [List.length_append]; show _ < 16777216; omega)]
            simp only [Res.T_ok]
            rw [T_nil, T_cons, T_asg]
            simp only [TE_c, TE_v, TE_tup, TE_lst, TE_dct, TE_bin, TE_cmp, TE_ite, TE_and, TE_or, TE_not, TE_neg, TE_ix, TE_sl, TO_none, TO_some, TE_call, TE_bi, TE_mt, TE_isi, TEs_nil, TEs_cons, TKV_nil, TKV_cons, TI_seq, TI_rng1, TI_rng2, TT_nm, TT_tp, TT_sub, TTs_nil, TTs_cons, TB_cmp, TB_isi, TB_not, TB_and, TB_or, TB_ite, TC_nil, TC_cons, Res.T_ok, List.getElem?_cons_succ, List.getElem?_cons_zero, List.set_cons_succ, List.set_cons_zero, Option.some.injEq, exists_eq_left', D.int.injEq, D.str.injEq, D.bl.injEq, D.tup.injEq, T_nil, binop, add_ii]
            rw [lineW_go ha hh h3 hb] at h1 h2
            refine ⟨⟨a + (wfrom x a).2.length, _, _, _, _, acc' ++ [tk (wfrom x a) num a], g ++ g', rfl, ?_, ?_, h2⟩, ?_⟩
            · rw [List.append_assoc]; rfl
            · rw [← h1, List.append_assoc]; rfl
            · show x.length - ((a : Int) + ((wfrom x a).2.length : Int)).toNat < x.length - (a : Int).toNat
              omega
      · rintro d h' ⟨h3, hb, k, rfl, hk, hg⟩
        rw [lineW_bad ha hh h3 hb] at h1 h2
        refine ⟨h2.symm, k, rfl, ?_, hg⟩
        rw [hk, ← h1, List.append_assoc]
  · rw [if_neg (fun z => absurd (of_decide_eq_true z) (by omega)), if_neg (by decide)]
    exact ⟨(stop (lineW_stop (by omega))).1, ⟨g, by rw [(stop (lineW_stop (by omega))).2]⟩, _, _, _, _, _, _, rfl⟩
theorem law_words_T (t : S) (ht : t.length ≤ 1048576) (h : Hs) : (run (Pg G) (n + 2) 27 [.str t] h).T fun d h' => ∃ k, d = .ref k ∧ h'[k]? = some (.lst (W t)) ∧ ∃ g, h' = h ++ g := by
  refine run_T rfl rfl ?_
  show (exSs _ f27 [some (.str t), none, none, none, none, none, none, none, none, none, none, none] h).T _ _ _ _
  unfold f27
  have sp : (method .split (.str t) [.str [10]] (h ++ [.lst []])) = .ok (.ref (h.length + 1)) (h ++ [.lst [], .lst ((splitOn 10 t).map .str)]) := by
    show (if t.length + 2 ≤ L ∧ 10 < 256 then new (.lst ((splitOn 10 t).map .str)) (h ++ [.lst []]) else .stuck) = _
    rw [if_pos ⟨by show t.length + 2 ≤ 16777216; omega, by decide⟩]
    unfold new
    simp
  rw [T_cons, T_asg]
  simp only [TE_c, TE_v, TE_tup, TE_lst, TE_dct, TE_bin, TE_cmp, TE_ite, TE_and, TE_or, TE_not, TE_neg, TE_ix, TE_sl, TO_none, TO_some, TE_call, TE_bi, TE_mt, TE_isi, TEs_nil, TEs_cons, TKV_nil, TKV_cons, TI_seq, TI_rng1, TI_rng2, TT_nm, TT_tp, TT_sub, TTs_nil, TTs_cons, TB_cmp, TB_isi, TB_not, TB_and, TB_or, TB_ite, TC_nil, TC_cons, Res.T_ok, List.getElem?_cons_succ, List.getElem?_cons_zero, List.set_cons_succ, List.set_cons_zero, Option.some.injEq, exists_eq_left', D.int.injEq, D.str.injEq, D.bl.injEq, D.tup.injEq]
  refine ⟨by show 0 ≤ 16777216; decide, by show 3 ≤ 16777216; decide, rfl, ?_⟩
  rw [T_cons, T_asg]
  simp only [TE_c, TE_v, TE_tup, TE_lst, TE_dct, TE_bin, TE_cmp, TE_ite, TE_and, TE_or, TE_not, TE_neg, TE_ix, TE_sl, TO_none, TO_some, TE_call, TE_bi, TE_mt, TE_isi, TEs_nil, TEs_cons, TKV_nil, TKV_cons, TI_seq, TI_rng1, TI_rng2, TT_nm, TT_tp, TT_sub, TTs_nil, TTs_cons, TB_cmp, TB_isi, TB_not, TB_and, TB_or, TB_ite, TC_nil, TC_cons, Res.T_ok, List.getElem?_cons_succ, List.getElem?_cons_zero, List.set_cons_succ, List.set_cons_zero, Option.some.injEq, exists_eq_left', D.int.injEq, D.str.injEq, D.bl.injEq, D.tup.injEq]
  refine ⟨rfl, ?_⟩
  rw [sp]
  simp only [TE_c, TE_v, TE_tup, TE_lst, TE_dct, TE_bin, TE_cmp, TE_ite, TE_and, TE_or, TE_not, TE_neg, TE_ix, TE_sl, TO_none, TO_some, TE_call, TE_bi, TE_mt, TE_isi, TEs_nil, TEs_cons, TKV_nil, TKV_cons, TI_seq, TI_rng1, TI_rng2, TT_nm, TT_tp, TT_sub, TTs_nil, TTs_cons, TB_cmp, TB_isi, TB_not, TB_and, TB_or, TB_ite, TC_nil, TC_cons, Res.T_ok, List.getElem?_cons_succ, List.getElem?_cons_zero, List.set_cons_succ, List.set_cons_zero, Option.some.injEq, exists_eq_left', D.int.injEq, D.str.injEq, D.bl.injEq, D.tup.injEq]
  generalize hls : splitOn 10 t = ls
  have hlen : ls.length ≤ t.length + 1 := by rw [← hls]; exact splitOn_le 10 t
  have hne : 1 ≤ ls.length := by rw [← hls]; exact splitOn_ne 10 t
  have hsum : (ls.map List.length).sum ≤ t.length := by rw [← hls]; exact splitOn_sum 10 t
  have hW : W t = allW ls := by unfold W; rw [hls]
  have hlW := linesW_len 0 ls
  rw [T_cons]
  refine T_for (fun i σ h' => ∃ acc g s2 s6 s7 s8 s9 s10 s11, σ = [some (.str t), some (.ref (h.length + 1)), s2, some (.str LET), some (.str FIG), some (.ref h.length), s6, s7, s8, s9, s10, s11] ∧ h' = h ++ .lst acc :: .lst (ls.map .str) :: g ∧ acc ++ (linesW i (ls.drop i)).1 = (linesW 0 ls).1 ∧ (linesW i (ls.drop i)).2 = (linesW 0 ls).2) (rngV 0 (ls.length : Int)) ?_ ?_ ?_
  · simp only [TE_c, TE_v, TE_tup, TE_lst, TE_dct, TE_bin, TE_cmp, TE_ite, TE_and, TE_or, TE_not, TE_neg, TE_ix, TE_sl, TO_none, TO_some, TE_call, TE_bi, TE_mt, TE_isi, TEs_nil, TEs_cons, TKV_nil, TKV_cons, TI_seq, TI_rng1, TI_rng2, TT_nm, TT_tp, TT_sub, TTs_nil, TTs_cons, TB_cmp, TB_isi, TB_not, TB_and, TB_or, TB_ite, TC_nil, TC_cons, Res.T_ok, List.getElem?_cons_succ, List.getElem?_cons_zero, List.set_cons_succ, List.set_cons_zero, Option.some.injEq, exists_eq_left', D.int.injEq, D.str.injEq, D.bl.injEq, D.tup.injEq, builtin, biLen, at1, List.length_map]
    exact ⟨_, rangeS_nat (by omega), rfl, [], [], _, _, _, _, _, _, _, rfl, rfl, rfl, rfl⟩
  · rintro i d σ h' hd ⟨acc, g, s2, s6, s7, s8, s9, s10, s11, rfl, rfl, h1, h2⟩
    obtain ⟨hi, rfl⟩ := rngV_get hd
    simp only [TE_c, TE_v, TE_tup, TE_lst, TE_dct, TE_bin, TE_cmp, TE_ite, TE_and, TE_or, TE_not, TE_neg, TE_ix, TE_sl, TO_none, TO_some, TE_call, TE_bi, TE_mt, TE_isi, TEs_nil, TEs_cons, TKV_nil, TKV_cons, TI_seq, TI_rng1, TI_rng2, TT_nm, TT_tp, TT_sub, TTs_nil, TTs_cons, TB_cmp, TB_isi, TB_not, TB_and, TB_or, TB_ite, TC_nil, TC_cons, Res.T_ok, List.getElem?_cons_succ, List.getElem?_cons_zero, List.set_cons_succ, List.set_cons_zero, Option.some.injEq, exists_eq_left', D.int.injEq, D.str.injEq, D.bl.injEq, D.tup.injEq]
    rw [T_cons, T_asg]
    simp only [TE_c, TE_v, TE_tup, TE_lst, TE_dct, TE_bin, TE_cmp, TE_ite, TE_and, TE_or, TE_not, TE_neg, TE_ix, TE_sl, TO_none, TO_some, TE_call, TE_bi, TE_mt, TE_isi, TEs_nil, TEs_cons, TKV_nil, TKV_cons, TI_seq, TI_rng1, TI_rng2, TT_nm, TT_tp, TT_sub, TTs_nil, TTs_cons, TB_cmp, TB_isi, TB_not, TB_and, TB_or, TB_ite, TC_nil, TC_cons, Res.T_ok, List.getElem?_cons_succ, List.getElem?_cons_zero, List.set_cons_succ, List.set_cons_zero, Option.some.injEq, exists_eq_left', D.int.injEq, D.str.injEq, D.bl.injEq, D.tup.injEq]
    refine ⟨_, index_ref at1g (by simpa using hi), le2, rfl, ?_⟩
    rw [T_cons]
    simp only [List.getElem_map]
    have hacc := congrArg List.length h1
    rw [List.length_append] at hacc
    have hle := le_sum hi
    have e0 := linesW_drop (num := i) hi
    refine (wOut_T (G := G) (n := n) h (.str t) (h.length + 1) acc (.lst (ls.map .str)) g i ls[i] s8 s9 s10 s11 _ _ (by omega)).mono ?_ ?_ (fun _ _ q => q) (fun _ _ q => q)
    · rintro σ' h' ⟨f1, ⟨g', rfl⟩, s6, s7, s8, s9, s10, s11, rfl⟩
      rw [if_neg (by rw [f1]; decide)] at e0
      rw [e0] at h1 h2
      rw [T_nil]
      exact ⟨_, _, _, _, _, _, _, _, _, rfl, rfl, by rw [List.append_assoc]; exact h1, h2⟩
    · rintro d h' ⟨f1, k, rfl, hk, hg⟩
      rw [if_pos f1] at e0
      rw [e0] at h1 h2
      refine ⟨k, rfl, ?_, hg⟩
      rw [hk, hW]
      unfold allW
      rw [if_pos (by rw [← h2]; exact f1), ← h1]
  · rintro σ h' ⟨acc, g, s2, s6, s7, s8, s9, s10, s11, rfl, rfl, h1, h2⟩
    rw [rngV_len, List.drop_length] at h1 h2
    have h1' : acc = (linesW 0 ls).1 := by rw [← h1]; exact (List.append_nil _).symm
    have h2' : (linesW 0 ls).2 = false := h2.symm
    rw [T_cons, T_ret]
    simp only [TE_c, TE_v, TE_tup, TE_lst, TE_dct, TE_bin, TE_cmp, TE_ite, TE_and, TE_or, TE_not, TE_neg, TE_ix, TE_sl, TO_none, TO_some, TE_call, TE_bi, TE_mt, TE_isi, TEs_nil, TEs_cons, TKV_nil, TKV_cons, TI_seq, TI_rng1, TI_rng2, TT_nm, TT_tp, TT_sub, TTs_nil, TTs_cons, TB_cmp, TB_isi, TB_not, TB_and, TB_or, TB_ite, TC_nil, TC_cons, Res.T_ok, List.getElem?_cons_succ, List.getElem?_cons_zero, List.set_cons_succ, List.set_cons_zero, Option.some.injEq, exists_eq_left', D.int.injEq, D.str.injEq, D.bl.injEq, D.tup.injEq, builtin, biLen, at1g, binop, subD]
    refine ⟨_, index_last at1g (by simpa using hne), ?_⟩
    simp only [List.getElem_map, TE_c, TE_v, TE_tup, TE_lst, TE_dct, TE_bin, TE_cmp, TE_ite, TE_and, TE_or, TE_not, TE_neg, TE_ix, TE_sl, TO_none, TO_some, TE_call, TE_bi, TE_mt, TE_isi, TEs_nil, TEs_cons, TKV_nil, TKV_cons, TI_seq, TI_rng1, TI_rng2, TT_nm, TT_tp, TT_sub, TTs_nil, TTs_cons, TB_cmp, TB_isi, TB_not, TB_and, TB_or, TB_ite, TC_nil, TC_cons, Res.T_ok, List.getElem?_cons_succ, List.getElem?_cons_zero, List.set_cons_succ, List.set_cons_zero, Option.some.injEq, exists_eq_left', D.int.injEq, D.str.injEq, D.bl.injEq, D.tup.injEq]
    refine ⟨le4, by show 1 ≤ 16777216; decide, ?_⟩
    have m := @more_T h acc (.lst (ls.map .str) :: g) (endW ls) []
    rw [List.append_nil] at m
    have e : ls.getLast?.getD [] = ls[(ls.map D.str).length - 1]'(by rw [List.length_map]; omega) := by
      rw [List.getLast?_eq_getElem?, List.getElem?_eq_getElem (by omega)]
      simp
    unfold endW at m
    rw [e] at m
    simp only [List.length_map] at m ⊢
    refine m (by rw [h1']; omega) ⟨_, rfl, ?_, _, List.append_assoc ..⟩
    rw [List.getElem?_concat_length, hW]
    unfold allW
    rw [if_neg (by rw [h2']; decide), h1']
    unfold endW
    rw [e]
    simp only [List.length_map]
end HD
end

section
set_option linter.all false
set_option maxRecDepth 100000
set_option maxHeartbeats 1000000
/-! MP1: the pen: what is drawn lies in its bounds. -/
namespace HD
open MI
variable {G : List D → Hs → Res D} {n : Nat}
theorem lineW_tok (num : Nat) (x : S) : ∀ (k a : Nat), x.length - a ≤ k → ∀ d ∈ (lineW num x a).1, Tok4 d
  | k, a, hk, d, hd => by
    rw [lineW] at hd
    split at hd
    · rename_i h
      split at hd
      · simp at hd
      · split at hd
        · match k with
          | 0 => omega
          | k + 1 => exact lineW_tok num x k (a + 1) (by omega) d hd
        · split at hd
          · rw [List.mem_singleton.mp hd]; exact ⟨_, _, _, _, rfl⟩
          · match k with
            | 0 => omega
            | k + 1 =>
              rcases List.mem_cons.mp hd with rfl | hd
              · exact ⟨_, _, _, _, rfl⟩
              · exact lineW_tok num x k _ (by omega) d hd
    · simp at hd
theorem linesW_tok : ∀ (num : Nat) (ls : List S), ∀ d ∈ (linesW num ls).1, Tok4 d
  | _, [], d, hd => by simp [linesW] at hd
  | num, x :: r, d, hd => by
    unfold linesW at hd
    split at hd
    · exact lineW_tok num x x.length 0 (by omega) d hd
    · rcases List.mem_append.mp hd with hd | hd
      · exact lineW_tok num x x.length 0 (by omega) d hd
      · exact linesW_tok (num + 1) r d hd
theorem W_tok (t : S) : ∀ d ∈ W t, Tok4 d := fun d hd => by
  unfold W allW at hd
  split at hd
  · exact linesW_tok 0 _ d hd
  · rcases List.mem_append.mp hd with hd | hd
    · exact linesW_tok 0 _ d hd
    · rw [List.mem_singleton.mp hd]; exact ⟨_, _, _, _, rfl⟩
theorem W_len (t : S) : (W t).length ≤ t.length + 1 := by
  have h1 := linesW_len 0 (splitOn 10 t)
  have h2 := splitOn_sum 10 t
  unfold W allW
  split
  · omega
  · rw [List.length_append]; show _ + 1 ≤ _; omega
/-! ### the pen -/
def kCells : S := [99, 101, 108, 108, 115]
def kAt : S := [97, 116]
def kDig : S := [100, 105, 103, 105, 116, 115]
def kCnt : S := [99, 111, 117, 110, 116]
def kFold : S := [102, 111, 108, 100]
/-- the pen lies at p; c: no more than so many draws -/
structure Pen (p q c : Nat) (h : Hs) : Prop where
  ex : ∃ (cells : List Int) (at_ : Nat) (dig fold : Int) (cnt : Nat), p ≠ q ∧ h[q]? = some (.lst (cells.map .int)) ∧ at_ ≤ cells.length ∧ 0 ≤ dig ∧ 0 ≤ fold ∧ fold < 2147483563 ∧ cnt ≤ c ∧
    h[p]? = some (.dct [(.str kCells, .ref q), (.str kAt, .int (at_ : Int)), (.str kDig, .int dig), (.str kCnt, .int (cnt : Int)), (.str kFold, .int fold)])
/-- all old places but p stay -/
structure Up (p : Nat) (h h' : Hs) : Prop where
  len : h.length ≤ h'.length
  same : ∀ i, i < h.length → i ≠ p → h'[i]? = h[i]?
theorem Up.refl {p : Nat} {h : Hs} : Up p h h := ⟨Nat.le_refl _, fun _ _ _ => rfl⟩
theorem Up.trans {p : Nat} {h h1 h2 : Hs} (a : Up p h h1) (b : Up p h1 h2) : Up p h h2 := ⟨Nat.le_trans a.len b.len, fun i hi hp => (b.same i (Nat.lt_of_lt_of_le hi a.len) hp).trans (a.same i hi hp)⟩
theorem Up.app {p : Nat} {h g : Hs} : Up p h (h ++ g) := ⟨by simp, fun i hi _ => List.getElem?_append_left hi⟩
theorem Up.at {p : Nat} {h h' : Hs} (u : Up p h h') {i : Nat} {o : MO} (e : h[i]? = some o) (hp : i ≠ p) : h'[i]? = some o := (u.same i (List.getElem?_eq_some_iff.mp e).1 hp).trans e
theorem Pen.up {p q c : Nat} {h h' : Hs} (P : Pen p q c h) (len : h.length ≤ h'.length) (same : ∀ i, i < h.length → h'[i]? = h[i]?) : Pen p q c h' := by
  obtain ⟨cells, a, dig, fold, cnt, h1, h2, h3, h4, h5, h6, h7, h8⟩ := P.ex
  exact ⟨cells, a, dig, fold, cnt, h1, (same q (List.getElem?_eq_some_iff.mp h2).1).trans h2, h3, h4, h5, h6, h7, (same p (List.getElem?_eq_some_iff.mp h8).1).trans h8⟩
theorem Pen.app {p q c : Nat} {h g : Hs} (P : Pen p q c h) : Pen p q c (h ++ g) := P.up (by simp) fun i hi => List.getElem?_append_left hi
theorem Pen.mono {p q c c' : Nat} {h : Hs} (P : Pen p q c h) (hc : c ≤ c') : Pen p q c' h := by
  obtain ⟨cells, a, dig, fold, cnt, h1, h2, h3, h4, h5, h6, h7, h8⟩ := P.ex
  exact ⟨cells, a, dig, fold, cnt, h1, h2, h3, h4, h5, h6, Nat.le_trans h7 hc, h8⟩
def pd (q : Nat) (a dig cnt fold : Int) : MO := .dct [(.str kCells, .ref q), (.str kAt, .int a), (.str kDig, .int dig), (.str kCnt, .int cnt), (.str kFold, .int fold)]
section
variable {h : Hs} {p q : Nat} {a dig cnt fold v : Int}
theorem index_dct {kvs : List (D × D)} {k : D} (e : h[p]? = some (.dct kvs)) : index (.ref p) k h = if isKey k = true then dget k kvs else none := by
  simp only [index, e]
theorem store_dct {kvs : List (D × D)} {k w : D} (e : h[p]? = some (.dct kvs)) (hk : isKey k = true) (hl : kvs.length < L) : store (.ref p) k w h = some (h.set p (.dct (dput k w kvs))) := by
  simp only [store, e]
  exact if_pos ⟨hk, hl⟩
theorem ix_cells (e : h[p]? = some (pd q a dig cnt fold)) : index (.ref p) (.str [99, 101, 108, 108, 115]) h = some (.ref q) := by
  exact (index_dct e).trans rfl
theorem ix_at (e : h[p]? = some (pd q a dig cnt fold)) : index (.ref p) (.str [97, 116]) h = some (.int a) := by
  exact (index_dct e).trans rfl
theorem ix_dig (e : h[p]? = some (pd q a dig cnt fold)) : index (.ref p) (.str [100, 105, 103, 105, 116, 115]) h = some (.int dig) := by
  exact (index_dct e).trans rfl
theorem ix_cnt (e : h[p]? = some (pd q a dig cnt fold)) : index (.ref p) (.str [99, 111, 117, 110, 116]) h = some (.int cnt) := by
  exact (index_dct e).trans rfl
theorem ix_fold (e : h[p]? = some (pd q a dig cnt fold)) : index (.ref p) (.str [102, 111, 108, 100]) h = some (.int fold) := by
  exact (index_dct e).trans rfl
theorem len5 {a b c d e : D × D} : [a, b, c, d, e].length < L := by show 5 < 16777216; decide
theorem st_at (e : h[p]? = some (pd q a dig cnt fold)) : store (.ref p) (.str [97, 116]) (.int v) h = some (h.set p (pd q v dig cnt fold)) := by
  exact store_dct e rfl len5
theorem st_dig (e : h[p]? = some (pd q a dig cnt fold)) : store (.ref p) (.str [100, 105, 103, 105, 116, 115]) (.int v) h = some (h.set p (pd q a v cnt fold)) := by
  exact store_dct e rfl len5
theorem st_cnt (e : h[p]? = some (pd q a dig cnt fold)) : store (.ref p) (.str [99, 111, 117, 110, 116]) (.int v) h = some (h.set p (pd q a dig v fold)) := by
  exact store_dct e rfl len5
theorem st_fold (e : h[p]? = some (pd q a dig cnt fold)) : store (.ref p) (.str [102, 111, 108, 100]) (.int v) h = some (h.set p (pd q a dig cnt v)) := by
  exact store_dct e rfl len5
end
/-- the pen's dict and its list of cells -/
structure PenA (p q : Nat) (cells : List Int) (a dig cnt fold : Int) (h : Hs) : Prop where
  d : h[p]? = some (pd q a dig cnt fold)
  l : h[q]? = some (.lst (cells.map .int))
  ne : p ≠ q
theorem PenA.set {p q : Nat} {cells : List Int} {a dig cnt fold a' dig' cnt' fold' : Int} {h : Hs} (P : PenA p q cells a dig cnt fold h) : PenA p q cells a' dig' cnt' fold' (h.set p (pd q a' dig' cnt' fold')) :=
  ⟨List.getElem?_set_self (List.getElem?_eq_some_iff.mp P.d).1, (List.getElem?_set_ne P.ne).trans P.l, P.ne⟩
theorem Up.set {p : Nat} {h : Hs} {o : MO} : Up p h (h.set p o) := ⟨by simp, fun i _ hp => List.getElem?_set_ne (Ne.symm hp)⟩
end HD
end

section
set_option linter.all false
set_option maxRecDepth 100000
set_option maxHeartbeats 1000000
/-! MP2: a draw. -/
namespace HD
open MI
variable {G : List D → Hs → Res D} {n : Nat}
/-- the pen's numbers lie in their bounds -/
structure Bd (cells : List Int) (a dig fold : Int) : Prop where
  a0 : 0 ≤ a
  d0 : 0 ≤ dig
  f0 : 0 ≤ fold
  f1 : fold < 2147483563
theorem mod_T {i j : Int} {h : Hs} {Q : D → Hs → Prop} (hj : 0 < j) (q : Q (.int (i % j)) h) : (modD (.int i) (.int j) h).T Q := by
  show (if 0 < j then Res.ok (D.int (i % j)) h else .stuck).T Q
  rw [if_pos hj]; exact q
theorem div_T {i j : Int} {h : Hs} {Q : D → Hs → Prop} (hj : 0 < j) (hj2 : j < 1073741824) (q : Q (.int (i / j)) h) : (divD (.int i) (.int j) h).T Q := by
  show (if 0 < j ∧ j < 1073741824 then Res.ok (D.int (i / j)) h else .stuck).T Q
  rw [if_pos ⟨hj, hj2⟩]; exact q
theorem mul_T {i j : Int} {h : Hs} {Q : D → Hs → Prop} (hj : -big < j ∧ j < big) (q : Q (.int (i * j)) h) : (mulD (.int i) (.int j) h).T Q := by
  show (if (-big < i ∧ i < big) ∨ (-big < j ∧ j < big) then Res.ok (D.int (i * j)) h else .stuck).T Q
  rw [if_pos (.inr hj)]; exact q
theorem pow_T {i j : Int} {h : Hs} {Q : D → Hs → Prop} (hj : 0 ≤ j ∧ j ≤ 1000000 ∧ i.natAbs < 18446744073709551616) (q : Q (.int (i ^ j.toNat)) h) : (powD (.int i) (.int j) h).T Q := by
  show (if 0 ≤ j ∧ j ≤ 1000000 ∧ i.natAbs < 18446744073709551616 then Res.ok (D.int (i ^ j.toNat)) h else .stuck).T Q
  rw [if_pos hj]; exact q
theorem int_T {i : Int} {h : Hs} {Q : D → Hs → Prop} (q : Q (.int i) h) : (builtin .int [.int i] h).T Q := q
/-- the end of a draw: blend -/
theorem blend_T {κ : Orc} {p q : Nat} {cells : List Int} {a dig cnt fold : Int} {h : Hs} (P : PenA p q cells a dig cnt fold h) (B : Bd cells a dig fold) (c0 : 0 ≤ cnt) (c1 : cnt ≤ 1000000000000) (m : Int) (m0 : 0 < m) (m1 : m < 1073741824) (s2 s3 s4 : Option D) (rt : D → Hs → Prop) (nx bk ct : Env → Hs → Prop)
    (q : ∀ k : Int, 0 ≤ k → k < m → rt (.int k) h) :
    (exSs κ (.cons (.asg (.nm 2) (.bin .add (.bin .add (.ix (.v 0) (.c (.str [102, 111, 108, 100]))) (.bin .mul (.ix (.v 0) (.c (.str [99, 111, 117, 110, 116]))) (.c (.int (8513))))) (.c (.int (61))))) (.cons (.ret (.bin .mod (.bin .fdiv (.bi .int (.cons (.bin .mod (.bin .pow (.v 2) (.c (.int (19)))) (.c (.int (2305843009213693951)))) .nil)) (.c (.int (256)))) (.v 1))) .nil)) [some (.ref p), some (.int m), s2, s3, s4] h).T nx rt bk ct := by
  have hb := B.f0
  have hb1 := B.f1
  rw [T_cons, T_asg]
  simp only [TE_c, TE_v, TE_tup, TE_lst, TE_dct, TE_bin, TE_cmp, TE_ite, TE_and, TE_or, TE_not, TE_neg, TE_ix, TE_sl, TO_none, TO_some, TE_call, TE_bi, TE_mt, TE_isi, TEs_nil, TEs_cons, TKV_nil, TKV_cons, TI_seq, TI_rng1, TI_rng2, TT_nm, TT_tp, TT_sub, TTs_nil, TTs_cons, TB_cmp, TB_isi, TB_not, TB_and, TB_or, TB_ite, TC_nil, TC_cons, Res.T_ok, List.getElem?_cons_succ, List.getElem?_cons_zero, List.set_cons_succ, List.set_cons_zero, Option.some.injEq, exists_eq_left', D.int.injEq, D.str.injEq, D.bl.injEq, D.tup.injEq, binop, add_ii]
  refine ⟨_, ix_fold P.d, _, ix_cnt P.d, mul_T (by decide) ?_⟩
  simp only [add_ii, Res.T_ok]
  rw [T_cons, T_ret]
  simp only [TE_c, TE_v, TE_tup, TE_lst, TE_dct, TE_bin, TE_cmp, TE_ite, TE_and, TE_or, TE_not, TE_neg, TE_ix, TE_sl, TO_none, TO_some, TE_call, TE_bi, TE_mt, TE_isi, TEs_nil, TEs_cons, TKV_nil, TKV_cons, TI_seq, TI_rng1, TI_rng2, TT_nm, TT_tp, TT_sub, TTs_nil, TTs_cons, TB_cmp, TB_isi, TB_not, TB_and, TB_or, TB_ite, TC_nil, TC_cons, Res.T_ok, List.getElem?_cons_succ, List.getElem?_cons_zero, List.set_cons_succ, List.set_cons_zero, Option.some.injEq, exists_eq_left', D.int.injEq, D.str.injEq, D.bl.injEq, D.tup.injEq, binop]
  refine pow_T ⟨by decide, by decide, by omega⟩ (mod_T (by decide) (int_T (div_T (by decide) (by decide) (mod_T m0 (q _ (Int.emod_nonneg _ (by omega)) (Int.emod_lt_of_pos _ m0))))))
theorem cmp_gt0 {i j : Int} {h : Hs} : cmpop .gt (.int i) (.int j) h = some (decide (j < i)) := rfl
theorem cmp_ge {i j : Int} {h : Hs} : cmpop .ge (.int i) (.int j) h = some (decide (j ≤ i)) := rfl
theorem cmp_lt {i j : Int} {h : Hs} : cmpop .lt (.int i) (.int j) h = some (decide (i < j)) := rfl
theorem cmp_eqi {i j : Int} {h : Hs} : cmpop .eq (.int i) (.int j) h = some (i == j) := rfl
/-- behind the cell: a digit, or the blend -/
theorem tail_T {κ : Orc} {p q : Nat} {cells : List Int} {a dig cnt fold : Int} {h : Hs} (P : PenA p q cells a dig cnt fold h) (B : Bd cells a dig fold) (c0 : 0 ≤ cnt) (c1 : cnt ≤ 1000000000000) (m : Int) (m0 : 0 < m) (m1 : m < 1073741824) (s2 s3 s4 : Option D) (rt : D → Hs → Prop) (nx bk ct : Env → Hs → Prop)
    (q : ∀ (k dig' : Int) (h' : Hs), 0 ≤ k → k < m → PenA p q cells a dig' cnt fold h' → Bd cells a dig' fold → Up p h h' → rt (.int k) h') :
    (exSs κ (.cons (.iff (.cmp .gt (.ix (.v 0) (.c (.str [100, 105, 103, 105, 116, 115]))) (.c (.int (0)))) (.cons (.asg (.nm 4) (.bin .mod (.bi .int (.cons (.ix (.v 0) (.c (.str [100, 105, 103, 105, 116, 115]))) .nil)) (.v 1))) (.cons (.asg (.sub (.v 0) (.c (.str [100, 105, 103, 105, 116, 115]))) (.bin .fdiv (.ix (.v 0) (.c (.str [100, 105, 103, 105, 116, 115]))) (.v 1))) (.cons (.ret (.v 4)) .nil))) .nil) (.cons (.asg (.nm 2) (.bin .add (.bin .add (.ix (.v 0) (.c (.str [102, 111, 108, 100]))) (.bin .mul (.ix (.v 0) (.c (.str [99, 111, 117, 110, 116]))) (.c (.int (8513))))) (.c (.int (61))))) (.cons (.ret (.bin .mod (.bin .fdiv (.bi .int (.cons (.bin .mod (.bin .pow (.v 2) (.c (.int (19)))) (.c (.int (2305843009213693951)))) .nil)) (.c (.int (256)))) (.v 1))) .nil))) [some (.ref p), some (.int m), s2, s3, s4] h).T nx rt bk ct := by
  rw [T_cons, T_iff, TB_cmp]
  simp only [TE_c, TE_v, TE_tup, TE_lst, TE_dct, TE_bin, TE_cmp, TE_ite, TE_and, TE_or, TE_not, TE_neg, TE_ix, TE_sl, TO_none, TO_some, TE_call, TE_bi, TE_mt, TE_isi, TEs_nil, TEs_cons, TKV_nil, TKV_cons, TI_seq, TI_rng1, TI_rng2, TT_nm, TT_tp, TT_sub, TTs_nil, TTs_cons, TB_cmp, TB_isi, TB_not, TB_and, TB_or, TB_ite, TC_nil, TC_cons, Res.T_ok, List.getElem?_cons_succ, List.getElem?_cons_zero, List.set_cons_succ, List.set_cons_zero, Option.some.injEq, exists_eq_left', D.int.injEq, D.str.injEq, D.bl.injEq, D.tup.injEq]
  refine ⟨_, ix_dig P.d, _, cmp_gt0, ?_⟩
  by_cases hd : 0 < dig
  · rw [if_pos (decide_eq_true hd), T_cons, T_asg]
    simp only [TE_c, TE_v, TE_tup, TE_lst, TE_dct, TE_bin, TE_cmp, TE_ite, TE_and, TE_or, TE_not, TE_neg, TE_ix, TE_sl, TO_none, TO_some, TE_call, TE_bi, TE_mt, TE_isi, TEs_nil, TEs_cons, TKV_nil, TKV_cons, TI_seq, TI_rng1, TI_rng2, TT_nm, TT_tp, TT_sub, TTs_nil, TTs_cons, TB_cmp, TB_isi, TB_not, TB_and, TB_or, TB_ite, TC_nil, TC_cons, Res.T_ok, List.getElem?_cons_succ, List.getElem?_cons_zero, List.set_cons_succ, List.set_cons_zero, Option.some.injEq, exists_eq_left', D.int.injEq, D.str.injEq, D.bl.injEq, D.tup.injEq, binop]
    refine ⟨_, ix_dig P.d, int_T (mod_T m0 ?_)⟩
    rw [T_cons, T_asg]
    simp only [TE_c, TE_v, TE_tup, TE_lst, TE_dct, TE_bin, TE_cmp, TE_ite, TE_and, TE_or, TE_not, TE_neg, TE_ix, TE_sl, TO_none, TO_some, TE_call, TE_bi, TE_mt, TE_isi, TEs_nil, TEs_cons, TKV_nil, TKV_cons, TI_seq, TI_rng1, TI_rng2, TT_nm, TT_tp, TT_sub, TTs_nil, TTs_cons, TB_cmp, TB_isi, TB_not, TB_and, TB_or, TB_ite, TC_nil, TC_cons, Res.T_ok, List.getElem?_cons_succ, List.getElem?_cons_zero, List.set_cons_succ, List.set_cons_zero, Option.some.injEq, exists_eq_left', D.int.injEq, D.str.injEq, D.bl.injEq, D.tup.injEq, binop]
    refine ⟨_, ix_dig P.d, div_T m0 m1 ?_⟩
    refine ⟨_, st_dig P.d, ?_⟩
    rw [T_cons, T_ret]
    simp only [TE_c, TE_v, TE_tup, TE_lst, TE_dct, TE_bin, TE_cmp, TE_ite, TE_and, TE_or, TE_not, TE_neg, TE_ix, TE_sl, TO_none, TO_some, TE_call, TE_bi, TE_mt, TE_isi, TEs_nil, TEs_cons, TKV_nil, TKV_cons, TI_seq, TI_rng1, TI_rng2, TT_nm, TT_tp, TT_sub, TTs_nil, TTs_cons, TB_cmp, TB_isi, TB_not, TB_and, TB_or, TB_ite, TC_nil, TC_cons, Res.T_ok, List.getElem?_cons_succ, List.getElem?_cons_zero, List.set_cons_succ, List.set_cons_zero, Option.some.injEq, exists_eq_left', D.int.injEq, D.str.injEq, D.bl.injEq, D.tup.injEq]
    exact q _ _ _ (Int.emod_nonneg _ (by omega)) (Int.emod_lt_of_pos _ m0) P.set ⟨B.a0, Int.ediv_nonneg B.d0 (by omega), B.f0, B.f1⟩ Up.set
  · rw [if_neg (fun z => hd (of_decide_eq_true z)), T_nil]
    exact blend_T P B c0 c1 m m0 m1 s2 s3 s4 rt nx bk ct fun k k0 k1 => q k dig h k0 k1 P B Up.refl
theorem draw_T {p q c : Nat} {h : Hs} (P : Pen p q c h) (hc : c < 1000000000000) (m : Int) (m0 : 0 < m) (m1 : m < 1073741824) : (run (Pg G) (n + 1) 6 [.ref p, .int m] h).T fun d h' => Pen p q (c + 1) h' ∧ Up p h h' ∧ ∃ k : Int, 0 ≤ k ∧ k < m ∧ d = .int k := by
  obtain ⟨cells, a, dig, fold, cnt, hne, hq, ha, hd0, hf0, hf1, hcnt, hp⟩ := P.ex
  have P0 : PenA p q cells (a : Int) dig (cnt : Int) fold h := ⟨hp, hq, hne⟩
  refine run_T rfl rfl ?_
  show (exSs _ f6 [some (.ref p), some (.int m), none, none, none] h).T _ _ _ _
  unfold f6
  rw [T_cons, T_asg]
  simp only [TE_c, TE_v, TE_tup, TE_lst, TE_dct, TE_bin, TE_cmp, TE_ite, TE_and, TE_or, TE_not, TE_neg, TE_ix, TE_sl, TO_none, TO_some, TE_call, TE_bi, TE_mt, TE_isi, TEs_nil, TEs_cons, TKV_nil, TKV_cons, TI_seq, TI_rng1, TI_rng2, TT_nm, TT_tp, TT_sub, TTs_nil, TTs_cons, TB_cmp, TB_isi, TB_not, TB_and, TB_or, TB_ite, TC_nil, TC_cons, Res.T_ok, List.getElem?_cons_succ, List.getElem?_cons_zero, List.set_cons_succ, List.set_cons_zero, Option.some.injEq, exists_eq_left', D.int.injEq, D.str.injEq, D.bl.injEq, D.tup.injEq, binop]
  refine ⟨_, ix_cnt P0.d, ?_⟩
  simp only [add_ii, Res.T_ok]
  refine ⟨_, st_cnt P0.d, ?_⟩
  have P1 : PenA p q cells (a : Int) dig ((cnt : Int) + 1) fold (h.set p (pd q a dig ((cnt : Int) + 1) fold)) := P0.set
  have U1 : Up p h (h.set p (pd q a dig ((cnt : Int) + 1) fold)) := Up.set
  generalize h.set p (pd q a dig ((cnt : Int) + 1) fold) = h1 at P1 U1
  have fin : ∀ (a' : Nat) (dig' fold' : Int) (h2 : Hs), a' ≤ cells.length → PenA p q cells (a' : Int) dig' ((cnt : Int) + 1) fold' h2 → 0 ≤ dig' → 0 ≤ fold' → fold' < 2147483563 → Up p h h2 → ∀ s2 s3 s4 : Option D,
      (exSs ⟨run (Pg G) n, itω⟩ (.cons (.iff (.cmp .gt (.ix (.v 0) (.c (.str [100, 105, 103, 105, 116, 115]))) (.c (.int (0)))) (.cons (.asg (.nm 4) (.bin .mod (.bi .int (.cons (.ix (.v 0) (.c (.str [100, 105, 103, 105, 116, 115]))) .nil)) (.v 1))) (.cons (.asg (.sub (.v 0) (.c (.str [100, 105, 103, 105, 116, 115]))) (.bin .fdiv (.ix (.v 0) (.c (.str [100, 105, 103, 105, 116, 115]))) (.v 1))) (.cons (.ret (.v 4)) .nil))) .nil) (.cons (.asg (.nm 2) (.bin .add (.bin .add (.ix (.v 0) (.c (.str [102, 111, 108, 100]))) (.bin .mul (.ix (.v 0) (.c (.str [99, 111, 117, 110, 116]))) (.c (.int (8513))))) (.c (.int (61))))) (.cons (.ret (.bin .mod (.bin .fdiv (.bi .int (.cons (.bin .mod (.bin .pow (.v 2) (.c (.int (19)))) (.c (.int (2305843009213693951)))) .nil)) (.c (.int (256)))) (.v 1))) .nil))) [some (.ref p), some (.int m), s2, s3, s4] h2).T
        (fun _ h' => Pen p q (c + 1) h' ∧ Up p h h' ∧ ∃ k : Int, 0 ≤ k ∧ k < m ∧ D.non = .int k) (fun d h' => Pen p q (c + 1) h' ∧ Up p h h' ∧ ∃ k : Int, 0 ≤ k ∧ k < m ∧ d = .int k) No No := by
    intro a' dig' fold' h2 ha' P2 d0 f0 f1 U2 s2 s3 s4
    refine tail_T P2 ⟨by omega, d0, f0, f1⟩ (by omega) (by omega) m m0 m1 s2 s3 s4 _ _ _ _ fun k dig2 h3 k0 k1 P3 B3 U3 => ⟨⟨cells, a', dig2, fold', cnt + 1, hne, P3.l, ha', B3.d0, f0, f1, by omega, ?_⟩, U2.trans U3, k, k0, k1, rfl⟩
    rw [P3.d]
    rfl
  rw [T_cons, T_iff, TB_and, TB_cmp]
  simp only [TE_c, TE_v, TE_tup, TE_lst, TE_dct, TE_bin, TE_cmp, TE_ite, TE_and, TE_or, TE_not, TE_neg, TE_ix, TE_sl, TO_none, TO_some, TE_call, TE_bi, TE_mt, TE_isi, TEs_nil, TEs_cons, TKV_nil, TKV_cons, TI_seq, TI_rng1, TI_rng2, TT_nm, TT_tp, TT_sub, TTs_nil, TTs_cons, TB_cmp, TB_isi, TB_not, TB_and, TB_or, TB_ite, TC_nil, TC_cons, Res.T_ok, List.getElem?_cons_succ, List.getElem?_cons_zero, List.set_cons_succ, List.set_cons_zero, Option.some.injEq, exists_eq_left', D.int.injEq, D.str.injEq, D.bl.injEq, D.tup.injEq, builtin, biLen]
  refine ⟨_, ix_dig P1.d, _, cmp_eqi, ?_⟩
  by_cases hz : dig = 0
  · rw [if_pos (by rw [hz]; rfl)]
    refine ⟨_, ix_at P1.d, _, ix_cells P1.d, ?_⟩
    simp only [P1.l]
    refine ⟨_, cmp_lt, ?_⟩
    rw [List.length_map]
    by_cases hl : (a : Int) < (cells.length : Int)
    · rw [if_pos (decide_eq_true hl)]
      have hl' : a < cells.length := by omega
      rw [T_cons, T_asg]
      simp only [TE_c, TE_v, TE_tup, TE_lst, TE_dct, TE_bin, TE_cmp, TE_ite, TE_and, TE_or, TE_not, TE_neg, TE_ix, TE_sl, TO_none, TO_some, TE_call, TE_bi, TE_mt, TE_isi, TEs_nil, TEs_cons, TKV_nil, TKV_cons, TI_seq, TI_rng1, TI_rng2, TT_nm, TT_tp, TT_sub, TTs_nil, TTs_cons, TB_cmp, TB_isi, TB_not, TB_and, TB_or, TB_ite, TC_nil, TC_cons, Res.T_ok, List.getElem?_cons_succ, List.getElem?_cons_zero, List.set_cons_succ, List.set_cons_zero, Option.some.injEq, exists_eq_left', D.int.injEq, D.str.injEq, D.bl.injEq, D.tup.injEq]
      refine ⟨_, ix_cells P1.d, _, ix_at P1.d, _, index_ref P1.l (by simpa using hl'), ?_⟩
      simp only [List.getElem_map]
      generalize cells[a] = cell
      rw [T_cons, T_asg]
      simp only [TE_c, TE_v, TE_tup, TE_lst, TE_dct, TE_bin, TE_cmp, TE_ite, TE_and, TE_or, TE_not, TE_neg, TE_ix, TE_sl, TO_none, TO_some, TE_call, TE_bi, TE_mt, TE_isi, TEs_nil, TEs_cons, TKV_nil, TKV_cons, TI_seq, TI_rng1, TI_rng2, TT_nm, TT_tp, TT_sub, TTs_nil, TTs_cons, TB_cmp, TB_isi, TB_not, TB_and, TB_or, TB_ite, TC_nil, TC_cons, Res.T_ok, List.getElem?_cons_succ, List.getElem?_cons_zero, List.set_cons_succ, List.set_cons_zero, Option.some.injEq, exists_eq_left', D.int.injEq, D.str.injEq, D.bl.injEq, D.tup.injEq, binop]
      refine ⟨_, ix_at P1.d, ?_⟩
      simp only [add_ii, Res.T_ok]
      refine ⟨_, st_at P1.d, ?_⟩
      have P2 : PenA p q cells ((a : Int) + 1) dig ((cnt : Int) + 1) fold (h1.set p (pd q ((a : Int) + 1) dig ((cnt : Int) + 1) fold)) := P1.set
      have U2 : Up p h (h1.set p (pd q ((a : Int) + 1) dig ((cnt : Int) + 1) fold)) := U1.trans Up.set
      generalize h1.set p (pd q ((a : Int) + 1) dig ((cnt : Int) + 1) fold) = h2 at P2 U2
      rw [T_cons, T_iff, TB_cmp]
      simp only [TE_c, TE_v, TE_tup, TE_lst, TE_dct, TE_bin, TE_cmp, TE_ite, TE_and, TE_or, TE_not, TE_neg, TE_ix, TE_sl, TO_none, TO_some, TE_call, TE_bi, TE_mt, TE_isi, TEs_nil, TEs_cons, TKV_nil, TKV_cons, TI_seq, TI_rng1, TI_rng2, TT_nm, TT_tp, TT_sub, TTs_nil, TTs_cons, TB_cmp, TB_isi, TB_not, TB_and, TB_or, TB_ite, TC_nil, TC_cons, Res.T_ok, List.getElem?_cons_succ, List.getElem?_cons_zero, List.set_cons_succ, List.set_cons_zero, Option.some.injEq, exists_eq_left', D.int.injEq, D.str.injEq, D.bl.injEq, D.tup.injEq, binop]
      refine pow_T ⟨by decide, by decide, by decide⟩ ⟨_, cmp_ge, ?_⟩
      by_cases hg : (10 : Int) ^ (18 : Int).toNat ≤ cell
      · rw [if_pos (decide_eq_true hg), T_cons, T_asg]
        simp only [TE_c, TE_v, TE_tup, TE_lst, TE_dct, TE_bin, TE_cmp, TE_ite, TE_and, TE_or, TE_not, TE_neg, TE_ix, TE_sl, TO_none, TO_some, TE_call, TE_bi, TE_mt, TE_isi, TEs_nil, TEs_cons, TKV_nil, TKV_cons, TI_seq, TI_rng1, TI_rng2, TT_nm, TT_tp, TT_sub, TTs_nil, TTs_cons, TB_cmp, TB_isi, TB_not, TB_and, TB_or, TB_ite, TC_nil, TC_cons, Res.T_ok, List.getElem?_cons_succ, List.getElem?_cons_zero, List.set_cons_succ, List.set_cons_zero, Option.some.injEq, exists_eq_left', D.int.injEq, D.str.injEq, D.bl.injEq, D.tup.injEq, binop]
        refine pow_T ⟨by decide, by decide, by decide⟩ ?_
        show ∃ h', store _ _ _ _ = some h' ∧ _
        refine ⟨_, st_dig P2.d, ?_⟩
        rw [T_nil, T_nil]
        exact fin (a + 1) _ fold _ (by omega) (by exact P2.set) (by omega) hf0 hf1 (U2.trans Up.set) _ _ _
      · rw [if_neg (fun z => hg (of_decide_eq_true z)), T_cons, T_asg]
        simp only [TE_c, TE_v, TE_tup, TE_lst, TE_dct, TE_bin, TE_cmp, TE_ite, TE_and, TE_or, TE_not, TE_neg, TE_ix, TE_sl, TO_none, TO_some, TE_call, TE_bi, TE_mt, TE_isi, TEs_nil, TEs_cons, TKV_nil, TKV_cons, TI_seq, TI_rng1, TI_rng2, TT_nm, TT_tp, TT_sub, TTs_nil, TTs_cons, TB_cmp, TB_isi, TB_not, TB_and, TB_or, TB_ite, TC_nil, TC_cons, Res.T_ok, List.getElem?_cons_succ, List.getElem?_cons_zero, List.set_cons_succ, List.set_cons_zero, Option.some.injEq, exists_eq_left', D.int.injEq, D.str.injEq, D.bl.injEq, D.tup.injEq, binop]
        refine ⟨_, ix_fold P2.d, mul_T (by decide) ?_⟩
        simp only [add_ii, Res.T_ok]
        refine int_T (mod_T (by decide) ⟨_, st_fold P2.d, ?_⟩)
        rw [T_nil, T_nil]
        exact fin (a + 1) dig _ _ (by omega) (by exact P2.set) hd0 (Int.emod_nonneg _ (by decide)) (Int.emod_lt_of_pos _ (by decide)) (U2.trans Up.set) _ _ _
    · rw [if_neg (fun z => hl (of_decide_eq_true z)), T_nil]
      exact fin a dig fold _ ha P1 hd0 hf0 hf1 U1 _ _ _
  · rw [if_neg (fun z => hz (eq_of_beq z)), if_neg (by decide), T_nil]
    exact fin a dig fold _ ha P1 hd0 hf0 hf1 U1 _ _ _
end HD
end

section
set_option linter.all false
set_option maxRecDepth 100000
set_option maxHeartbeats 1000000
/-! MP3: picks, shuffles. -/
namespace HD
open MI
variable {G : List D → Hs → Res D} {n : Nat}
theorem index_intL {h : Hs} {k : Nat} {ds : List D} {i : Int} (hk : h[k]? = some (.lst ds)) (i0 : 0 ≤ i) (i1 : i < ds.length) : ∃ d, index (.ref k) (.int i) h = some d ∧ d ∈ ds := by
  obtain ⟨j, rfl⟩ := Int.eq_ofNat_of_zero_le i0
  have hj : j < ds.length := by omega
  exact ⟨ds[j], index_ref hk hj, List.getElem_mem hj⟩
theorem index_intT {h : Hs} {ds : List D} {i : Int} (i0 : 0 ≤ i) (i1 : i < ds.length) : ∃ d, index (.tup ds) (.int i) h = some d ∧ d ∈ ds := by
  obtain ⟨j, rfl⟩ := Int.eq_ofNat_of_zero_le i0
  have hj : j < ds.length := by omega
  refine ⟨ds[j], ?_, List.getElem_mem hj⟩
  unfold index
  simp only
  unfold itemAt
  rw [ixN_nat hj]
  exact List.getElem?_eq_getElem hj
theorem pickL_T {p q c k : Nat} {h : Hs} {ds : List D} (P : Pen p q c h) (hc : c < 1000000000000) (hk : h[k]? = some (.lst ds)) (hp : k ≠ p) (hn : 0 < ds.length) (hm : ds.length < 1073741824) : (run (Pg G) (n + 2) 7 [.ref p, .ref k] h).T fun d h' => Pen p q (c + 1) h' ∧ Up p h h' ∧ d ∈ ds := by
  refine run_T rfl rfl ?_
  show (exSs _ f7 [some (.ref p), some (.ref k)] h).T _ _ _ _
  unfold f7
  rw [T_cons, T_ret]
  simp only [TE_c, TE_v, TE_tup, TE_lst, TE_dct, TE_bin, TE_cmp, TE_ite, TE_and, TE_or, TE_not, TE_neg, TE_ix, TE_sl, TO_none, TO_some, TE_call, TE_bi, TE_mt, TE_isi, TEs_nil, TEs_cons, TKV_nil, TKV_cons, TI_seq, TI_rng1, TI_rng2, TT_nm, TT_tp, TT_sub, TTs_nil, TTs_cons, TB_cmp, TB_isi, TB_not, TB_and, TB_or, TB_ite, TC_nil, TC_cons, Res.T_ok, List.getElem?_cons_succ, List.getElem?_cons_zero, List.set_cons_succ, List.set_cons_zero, Option.some.injEq, exists_eq_left', D.int.injEq, D.str.injEq, D.bl.injEq, D.tup.injEq, builtin, biLen, hk]
  refine (draw_T (n := n) P hc (ds.length : Int) (by omega) (by omega)).mono fun d h' ⟨P', U, i, i0, i1, e⟩ => ?_
  subst e
  obtain ⟨x, ex, hx⟩ := index_intL (U.at hk hp) i0 i1
  exact ⟨x, ex, P', U, hx⟩
theorem pickT_T {p q c : Nat} {h : Hs} {ds : List D} (P : Pen p q c h) (hc : c < 1000000000000) (hn : 0 < ds.length) (hm : ds.length < 1073741824) : (run (Pg G) (n + 2) 7 [.ref p, .tup ds] h).T fun d h' => Pen p q (c + 1) h' ∧ Up p h h' ∧ d ∈ ds := by
  refine run_T rfl rfl ?_
  show (exSs _ f7 [some (.ref p), some (.tup ds)] h).T _ _ _ _
  unfold f7
  rw [T_cons, T_ret]
  simp only [TE_c, TE_v, TE_tup, TE_lst, TE_dct, TE_bin, TE_cmp, TE_ite, TE_and, TE_or, TE_not, TE_neg, TE_ix, TE_sl, TO_none, TO_some, TE_call, TE_bi, TE_mt, TE_isi, TEs_nil, TEs_cons, TKV_nil, TKV_cons, TI_seq, TI_rng1, TI_rng2, TT_nm, TT_tp, TT_sub, TTs_nil, TTs_cons, TB_cmp, TB_isi, TB_not, TB_and, TB_or, TB_ite, TC_nil, TC_cons, Res.T_ok, List.getElem?_cons_succ, List.getElem?_cons_zero, List.set_cons_succ, List.set_cons_zero, Option.some.injEq, exists_eq_left', D.int.injEq, D.str.injEq, D.bl.injEq, D.tup.injEq, builtin, biLen]
  refine (draw_T (n := n) P hc (ds.length : Int) (by omega) (by omega)).mono fun d h' ⟨P', U, i, i0, i1, e⟩ => ?_
  subst e
  obtain ⟨x, ex, hx⟩ := index_intT (h := h') i0 i1
  exact ⟨x, ex, P', U, hx⟩
theorem Pen.lt {p q c : Nat} {h : Hs} (P : Pen p q c h) : p < h.length := by
  obtain ⟨cells, a, dig, fold, cnt, h1, h2, h3, h4, h5, h6, h7, h8⟩ := P.ex
  exact (List.getElem?_eq_some_iff.mp h8).1
theorem pop_T {h : Hs} {k : Nat} {xs : List D} {i : Int} {Q : D → Hs → Prop} (hk : h[k]? = some (.lst xs)) (i0 : 0 ≤ i) (i1 : i < xs.length) (q : ∀ d ∈ xs, ∀ ys : List D, ys.length + 1 = xs.length → (∀ y ∈ ys, y ∈ xs) → Q d (h.set k (.lst ys))) : (method .pop (.ref k) [.int i] h).T Q := by
  obtain ⟨j, rfl⟩ := Int.eq_ofNat_of_zero_le i0
  have hj : j < xs.length := by omega
  show (mtPop (.ref k) [.int (j : Int)] h).T Q
  unfold mtPop
  simp only [hk, ixN_nat hj, List.getElem?_eq_getElem hj]
  refine q _ (List.getElem_mem hj) _ ?_ fun y hy => List.mem_of_mem_eraseIdx hy
  rw [List.length_eraseIdx]
  split <;> omega
theorem Pen.wr {p q c k : Nat} {h : Hs} {o : MO} (P : Pen p q c h) (hp : k ≠ p) (hq : k ≠ q) : Pen p q c (h.set k o) := by
  obtain ⟨cells, a, dig, fold, cnt, h1, h2, h3, h4, h5, h6, h7, h8⟩ := P.ex
  exact ⟨cells, a, dig, fold, cnt, h1, (List.getElem?_set_ne hq).trans h2, h3, h4, h5, h6, h7, (List.getElem?_set_ne hp).trans h8⟩
theorem Pen.ltq {p q c : Nat} {h : Hs} (P : Pen p q c h) : q < h.length := by
  obtain ⟨cells, a, dig, fold, cnt, h1, h2, h3, h4, h5, h6, h7, h8⟩ := P.ex
  exact (List.getElem?_eq_some_iff.mp h2).1
theorem shuffled_T {p q c k : Nat} {h : Hs} {ds : List D} (P : Pen p q c h) (hc : c + ds.length < 1000000000000) (hk : h[k]? = some (.lst ds)) (hm : ds.length < 1048576) : (run (Pg G) (n + 2) 8 [.ref p, .ref k] h).T fun d h' => Pen p q (c + ds.length) h' ∧ Up p h h' ∧ ∃ (r : Nat) (es : List D), d = .ref r ∧ h.length ≤ r ∧ h'[r]? = some (.lst es) ∧ es.length = ds.length ∧ ∀ e ∈ es, e ∈ ds := by
  refine run_T rfl rfl ?_
  show (exSs _ f8 [some (.ref p), some (.ref k), none, none, none] h).T _ _ _ _
  unfold f8
  have hp := P.lt
  have hq := P.ltq
  rw [T_cons, T_asg]
  simp only [TE_c, TE_v, TE_tup, TE_lst, TE_dct, TE_bin, TE_cmp, TE_ite, TE_and, TE_or, TE_not, TE_neg, TE_ix, TE_sl, TO_none, TO_some, TE_call, TE_bi, TE_mt, TE_isi, TEs_nil, TEs_cons, TKV_nil, TKV_cons, TI_seq, TI_rng1, TI_rng2, TT_nm, TT_tp, TT_sub, TTs_nil, TTs_cons, TB_cmp, TB_isi, TB_not, TB_and, TB_or, TB_ite, TC_nil, TC_cons, Res.T_ok, List.getElem?_cons_succ, List.getElem?_cons_zero, List.set_cons_succ, List.set_cons_zero, Option.some.injEq, exists_eq_left', D.int.injEq, D.str.injEq, D.bl.injEq, D.tup.injEq, builtin, biList, seqOf, hk, new]
  refine ⟨by show 0 ≤ 16777216; decide, le2, rfl, ?_⟩
  rw [T_cons]
  have e2 : h ++ [MO.lst ds] ++ [MO.lst []] = h ++ [MO.lst ds, MO.lst []] := by simp
  rw [e2]
  have el : (h ++ [MO.lst ds]).length = h.length + 1 := by simp
  rw [el]
  refine T_for (fun i σ h' => ∃ (xs es : List D) (s2 : Option D), σ = [some (.ref p), some (.ref k), s2, some (.ref h.length), some (.ref (h.length + 1))] ∧ Pen p q (c + i) h' ∧ Up p h h' ∧ h.length + 2 ≤ h'.length ∧ h'[h.length]? = some (.lst xs) ∧ h'[h.length + 1]? = some (.lst es) ∧ xs.length + i = ds.length ∧ es.length = i ∧ (∀ x ∈ xs, x ∈ ds) ∧ ∀ e ∈ es, e ∈ ds) (rngV 0 (ds.length : Int)) ?_ ?_ ?_
  · have hk2 : (h ++ [MO.lst ds, MO.lst []])[k]? = some (.lst ds) := by
      rw [List.getElem?_append_left (List.getElem?_eq_some_iff.mp hk).1]; exact hk
    simp only [TE_c, TE_v, TE_tup, TE_lst, TE_dct, TE_bin, TE_cmp, TE_ite, TE_and, TE_or, TE_not, TE_neg, TE_ix, TE_sl, TO_none, TO_some, TE_call, TE_bi, TE_mt, TE_isi, TEs_nil, TEs_cons, TKV_nil, TKV_cons, TI_seq, TI_rng1, TI_rng2, TT_nm, TT_tp, TT_sub, TTs_nil, TTs_cons, TB_cmp, TB_isi, TB_not, TB_and, TB_or, TB_ite, TC_nil, TC_cons, Res.T_ok, List.getElem?_cons_succ, List.getElem?_cons_zero, List.set_cons_succ, List.set_cons_zero, Option.some.injEq, exists_eq_left', D.int.injEq, D.str.injEq, D.bl.injEq, D.tup.injEq, builtin, biLen, hk2]
    exact ⟨_, rangeS_nat (by omega), rfl, ds, [], _, rfl, P.app, Up.app, by simp, at0, at1, rfl, rfl, fun _ z => z, fun _ z => by cases z⟩
  · rintro i d σ h' hd ⟨xs, es, s2, rfl, P', U, hl, hx, he, h1, h2, h3, h4⟩
    obtain ⟨hi, rfl⟩ := rngV_get hd
    simp only [TE_c, TE_v, TE_tup, TE_lst, TE_dct, TE_bin, TE_cmp, TE_ite, TE_and, TE_or, TE_not, TE_neg, TE_ix, TE_sl, TO_none, TO_some, TE_call, TE_bi, TE_mt, TE_isi, TEs_nil, TEs_cons, TKV_nil, TKV_cons, TI_seq, TI_rng1, TI_rng2, TT_nm, TT_tp, TT_sub, TTs_nil, TTs_cons, TB_cmp, TB_isi, TB_not, TB_and, TB_or, TB_ite, TC_nil, TC_cons, Res.T_ok, List.getElem?_cons_succ, List.getElem?_cons_zero, List.set_cons_succ, List.set_cons_zero, Option.some.injEq, exists_eq_left', D.int.injEq, D.str.injEq, D.bl.injEq, D.tup.injEq]
    rw [T_cons, T_ex]
    simp only [TE_c, TE_v, TE_tup, TE_lst, TE_dct, TE_bin, TE_cmp, TE_ite, TE_and, TE_or, TE_not, TE_neg, TE_ix, TE_sl, TO_none, TO_some, TE_call, TE_bi, TE_mt, TE_isi, TEs_nil, TEs_cons, TKV_nil, TKV_cons, TI_seq, TI_rng1, TI_rng2, TT_nm, TT_tp, TT_sub, TTs_nil, TTs_cons, TB_cmp, TB_isi, TB_not, TB_and, TB_or, TB_ite, TC_nil, TC_cons, Res.T_ok, List.getElem?_cons_succ, List.getElem?_cons_zero, List.set_cons_succ, List.set_cons_zero, Option.some.injEq, exists_eq_left', D.int.injEq, D.str.injEq, D.bl.injEq, D.tup.injEq, builtin, biLen, hx]
    refine ⟨by simp only [recv, tyOf, he]; rfl, by simp only [recv, tyOf, hx]; rfl, ?_⟩
    refine (draw_T (n := n) P' (by omega) (xs.length : Int) (by omega) (by omega)).mono fun d h2' ⟨P2, U2, j, j0, j1, e⟩ => ?_
    subst e
    have hx2 := U2.at hx (by omega)
    have he2 := U2.at he (by omega)
    have hl2 := U2.len
    refine pop_T hx2 j0 j1 fun y hy ys hys hmem => ?_
    show (mtAppend (.ref (h.length + 1)) [y] (h2'.set h.length (.lst ys))).T _
    unfold mtAppend
    have he3 : (h2'.set h.length (MO.lst ys))[h.length + 1]? = some (.lst es) := (List.getElem?_set_ne (by omega)).trans he2
    simp only [he3]
    rw [if_pos (by show es.length < 16777216; omega)]
    simp only [Res.T_ok]
    rw [T_nil]
    refine ⟨ys, es ++ [y], _, rfl, (P2.wr (by omega) (by omega)).wr (by omega) (by omega), ?_, ?_, ?_, ?_, by omega, by simp; omega, fun z hz => h3 z (hmem z hz), fun z hz => ?_⟩
    · refine ⟨by simp; omega, fun m hm hmp => ?_⟩
      rw [List.getElem?_set_ne (by omega), List.getElem?_set_ne (by omega)]
      exact (U.trans U2).same m hm hmp
    · simp; omega
    · rw [List.getElem?_set_ne (by omega)]; exact List.getElem?_set_self (by omega)
    · exact List.getElem?_set_self (by simp; omega)
    · rcases List.mem_append.mp hz with hz | hz
      · exact h4 z hz
      · rw [List.mem_singleton.mp hz]; exact h3 y hy
  · rintro σ h' ⟨xs, es, s2, rfl, P', U, hl, hx, he, h1, h2, h3, h4⟩
    rw [rngV_len] at P' h1 h2
    rw [T_cons, T_ret]
    simp only [TE_c, TE_v, TE_tup, TE_lst, TE_dct, TE_bin, TE_cmp, TE_ite, TE_and, TE_or, TE_not, TE_neg, TE_ix, TE_sl, TO_none, TO_some, TE_call, TE_bi, TE_mt, TE_isi, TEs_nil, TEs_cons, TKV_nil, TKV_cons, TI_seq, TI_rng1, TI_rng2, TT_nm, TT_tp, TT_sub, TTs_nil, TTs_cons, TB_cmp, TB_isi, TB_not, TB_and, TB_or, TB_ite, TC_nil, TC_cons, Res.T_ok, List.getElem?_cons_succ, List.getElem?_cons_zero, List.set_cons_succ, List.set_cons_zero, Option.some.injEq, exists_eq_left', D.int.injEq, D.str.injEq, D.bl.injEq, D.tup.injEq]
    exact ⟨P', U, _, es, rfl, by omega, he, h2, h4⟩
end HD
end

section
set_option linter.all false
set_option maxRecDepth 100000
set_option maxHeartbeats 1000000
/-! MP4: values, statements that are drawn. -/
namespace HD
open MI
variable {G : List D → Hs → Res D} {n : Nat}
/-- the names that are drawn -/
def NAMES : List S := [[114], [115], [113], [97, 49], [114, 48], [120], [121], [122], [102, 108, 97, 103], [116], [117], [108, 101, 102, 116], [118, 50], [97], [98], [97, 115, 107, 49]]
def Nms (ws : List S) : Prop := ∀ w ∈ ws, w ∈ NAMES
def sReg : S := [114, 101, 103]
def sNm : S := [110, 117, 109]
/-- a value of a statement -/
def Val (d : D) : Prop := (∃ w ∈ NAMES, d = .tup [.str sReg, .str w]) ∨ ∃ k : Nat, k < 10 ∧ d = .tup [.str sNm, .int (k : Int)]
theorem eqB_nil {h : Hs} {k e : Nat} {ws : List S} (hk : h[k]? = some (.lst (ws.map .str))) (he : h[e]? = some (.lst [])) : eqB h (.ref k) (.ref e) = some ws.isEmpty := by
  have e1 : ex h (.ref k) = some (.lst (ws.map .str)) := by
    show exR h 8 k = _
    unfold exR
    simp only [hk, exTs_strs, Option.map_some]
  have e2 : ex h (.ref e) = some (.lst []) := by
    show exR h 8 e = _
    unfold exR
    simp only [he]
    rfl
  unfold eqB
  simp only [e1, e2]
  have e3 : min (dep (.lst (ws.map D.str))) (dep (.lst [])) ≤ 64 := Nat.le_trans (Nat.min_le_right _ _) (by decide)
  rw [if_pos e3]
  cases ws <;> rfl
theorem ne_nil {h : Hs} {k e : Nat} {ws : List S} (hk : h[k]? = some (.lst (ws.map .str))) (he : h[e]? = some (.lst [])) : cmpop .ne (.ref k) (.ref e) h = some (!ws.isEmpty) := by
  show (eqB h (.ref k) (.ref e)).map (!·) = _
  rw [eqB_nil hk he]; rfl
theorem le6 {a b c d e f : D} : [a, b, c, d, e, f].length ≤ L := by show 6 ≤ 16777216; decide
theorem value_T {p q c k : Nat} {h : Hs} {ws : List S} (P : Pen p q c h) (hc : c + 2 < 1000000000000) (hk : h[k]? = some (.lst (ws.map .str))) (hp : k ≠ p) (hw : Nms ws) (hm : ws.length < 1048576) : (run (Pg G) (n + 3) 10 [.ref p, .ref k] h).T fun d h' => Pen p q (c + 2) h' ∧ Up p h h' ∧ Val d := by
  refine run_T rfl rfl ?_
  show (exSs _ f10 [some (.ref p), some (.ref k)] h).T _ _ _ _
  unfold f10
  have hkl := (List.getElem?_eq_some_iff.mp hk).1
  rw [T_cons, T_ret]
  simp only [TE_c, TE_v, TE_tup, TE_lst, TE_dct, TE_bin, TE_cmp, TE_ite, TE_and, TE_or, TE_not, TE_neg, TE_ix, TE_sl, TO_none, TO_some, TE_call, TE_bi, TE_mt, TE_isi, TEs_nil, TEs_cons, TKV_nil, TKV_cons, TI_seq, TI_rng1, TI_rng2, TT_nm, TT_tp, TT_sub, TTs_nil, TTs_cons, TB_cmp, TB_isi, TB_not, TB_and, TB_or, TB_ite, TC_nil, TC_cons, Res.T_ok, List.getElem?_cons_succ, List.getElem?_cons_zero, List.set_cons_succ, List.set_cons_zero, Option.some.injEq, exists_eq_left', D.int.injEq, D.str.injEq, D.bl.injEq, D.tup.injEq]
  refine ⟨by show 0 ≤ 16777216; decide, ?_⟩
  have hk1 : (h ++ [MO.lst []])[k]? = some (.lst (ws.map .str)) := by rw [List.getElem?_append_left hkl]; exact hk
  refine ⟨_, ne_nil hk1 (List.getElem?_concat_length ..), ?_⟩
  have P1 : Pen p q c (h ++ [MO.lst []]) := P.app
  have U1 : Up p h (h ++ [MO.lst []]) := Up.app
  have hp1 : p < (h ++ [MO.lst []]).length := P1.lt
  generalize h ++ [MO.lst []] = h1 at P1 U1 hk1 hp1
  -- a number
  have num : ∀ (c' : Nat) (h2 : Hs), c' ≤ c + 1 → Pen p q c' h2 → Up p h h2 → p < h2.length →
      ([D.int 1, D.int 1, D.int 2, D.int 0, D.int 3, D.int 9].length ≤ L ∧ (run (Pg G) (n + 2) 7 [.ref p, .ref h2.length] (h2 ++ [MO.lst [D.int 1, D.int 1, D.int 2, D.int 0, D.int 3, D.int 9]])).T fun d h' => [D.str [110, 117, 109], d].length ≤ L ∧ Pen p q (c + 2) h' ∧ Up p h h' ∧ Val (.tup [D.str [110, 117, 109], d])) := by
    intro c' h2 hc' P2 U2 hp2
    refine ⟨le6, (pickL_T (n := n) P2.app (by omega) (List.getElem?_concat_length ..) (by omega) (by decide) (by decide)).mono fun d h' ⟨P3, U3, hd⟩ => ⟨le2, P3.mono (by omega), (U2.trans Up.app).trans U3, .inr ?_⟩⟩
    simp only [List.mem_cons, List.not_mem_nil, or_false] at hd
    rcases hd with rfl | rfl | rfl | rfl | rfl | rfl
    · exact ⟨1, by decide, rfl⟩
    · exact ⟨1, by decide, rfl⟩
    · exact ⟨2, by decide, rfl⟩
    · exact ⟨0, by decide, rfl⟩
    · exact ⟨3, by decide, rfl⟩
    · exact ⟨9, by decide, rfl⟩
  cases hwe : ws.isEmpty with
  | true =>
    rw [Bool.not_true, if_neg (by decide), if_neg (by decide)]
    exact num c h1 (by omega) P1 U1 hp1
  | false =>
    rw [Bool.not_false, if_pos rfl]
    refine (draw_T (n := n + 1) P1 (by omega) 3 (by decide) (by decide)).mono fun d h2 ⟨P2, U2, i, i0, i1, e⟩ => ?_
    subst e
    refine ⟨_, cmp_eqi, ?_⟩
    have hp2 := P2.lt
    by_cases hz : i = 0
    · rw [if_pos (by rw [hz]; rfl)]
      have hk2 := U2.at hk1 hp
      have hne : 0 < (ws.map D.str).length := by
        cases ws with
        | nil => cases hwe
        | cons w r => simp
      refine (pickL_T (n := n) P2 (by omega) hk2 hp hne (by rw [List.length_map]; omega)).mono fun d h3 ⟨P3, U3, hd⟩ => ⟨le2, P3, (U1.trans U2).trans U3, .inl ?_⟩
      obtain ⟨w, hw1, rfl⟩ := List.mem_map.mp hd
      exact ⟨w, hw w hw1, rfl⟩
    · rw [if_neg (fun z => hz (eq_of_beq z))]
      exact num (c + 1) h2 (by omega) P2 (U1.trans U2) hp2
end HD
end

section
set_option linter.all false
set_option maxRecDepth 100000
set_option maxHeartbeats 1000000
/-! MP5: statements. -/
namespace HD
open MI
variable {G : List D → Hs → Res D} {n : Nat}
def sStore : S := [115, 116, 111, 114, 101]
def sLoad : S := [108, 111, 97, 100]
def sSwap : S := [115, 119, 97, 112]
def sFence : S := [102, 101, 110, 99, 101]
/-- a statement -/
inductive Stm : D → Prop
  | store {w : S} {v : D} (hw : w ∈ NAMES) (hv : Val v) : Stm (.tup [.str sStore, .str w, v])
  | load {r w : S} (hr : r ∈ NAMES) (hw : w ∈ NAMES) : Stm (.tup [.str sLoad, .str r, .str w])
  | swap {r w : S} {v : D} (hr : r ∈ NAMES) (hw : w ∈ NAMES) (hv : Val v) : Stm (.tup [.str sSwap, .str r, .str w, v])
  | fence : Stm (.tup [.str sFence])
theorem eq_nil {h : Hs} {k e : Nat} {ws : List S} (hk : h[k]? = some (.lst (ws.map .str))) (he : h[e]? = some (.lst [])) : cmpop .eq (.ref k) (.ref e) h = some ws.isEmpty := eqB_nil hk he
theorem index_first {h : Hs} {k : Nat} {ws : List S} (hk : h[k]? = some (.lst (ws.map .str))) (hn : ws.isEmpty = false) (hw : Nms ws) : ∃ w ∈ NAMES, index (.ref k) (.int 0) h = some (.str w) := by
  cases ws with
  | nil => cases hn
  | cons w r => exact ⟨w, hw w (by simp), index_ref (i := 0) hk (by simp)⟩
theorem le3 {a b c : D} : [a, b, c].length ≤ L := by show 3 ≤ 16777216; decide
theorem le1 {a : D} : [a].length ≤ L := by show 1 ≤ 16777216; decide
theorem le0 : ([] : List D).length ≤ L := by show 0 ≤ 16777216; decide
theorem statement_T {p q c kl kf : Nat} {h : Hs} {ps wl wf : List S} (P : Pen p q c h) (hc : c + 4 < 1000000000000) (hl : h[kl]? = some (.lst (wl.map .str))) (hf : h[kf]? = some (.lst (wf.map .str))) (hlp : kl ≠ p) (hfp : kf ≠ p) (hps : Nms ps) (hwl : Nms wl) (hwf : Nms wf) (hp0 : ps ≠ []) (hp1 : ps.length < 1048576) (hl1 : wl.length < 1048576) :
    (run (Pg G) (n + 4) 11 [.ref p, .tup (ps.map .str), .ref kl, .ref kf] h).T fun d h' => Pen p q (c + 4) h' ∧ Up p h h' ∧ Stm d := by
  refine run_T rfl rfl ?_
  show (exSs _ f11 [some (.ref p), some (.tup (ps.map .str)), some (.ref kl), some (.ref kf), none, none] h).T _ _ _ _
  unfold f11
  have hpl : 0 < (ps.map D.str).length := by
    cases ps with
    | nil => exact absurd rfl hp0
    | cons w r => simp
  rw [T_cons, T_asg]
  simp only [TE_c, TE_v, TE_tup, TE_lst, TE_dct, TE_bin, TE_cmp, TE_ite, TE_and, TE_or, TE_not, TE_neg, TE_ix, TE_sl, TO_none, TO_some, TE_call, TE_bi, TE_mt, TE_isi, TEs_nil, TEs_cons, TKV_nil, TKV_cons, TI_seq, TI_rng1, TI_rng2, TT_nm, TT_tp, TT_sub, TTs_nil, TTs_cons, TB_cmp, TB_isi, TB_not, TB_and, TB_or, TB_ite, TC_nil, TC_cons, Res.T_ok, List.getElem?_cons_succ, List.getElem?_cons_zero, List.set_cons_succ, List.set_cons_zero, Option.some.injEq, exists_eq_left', D.int.injEq, D.str.injEq, D.bl.injEq, D.tup.injEq]
  refine (draw_T (n := n + 2) P (by omega) 9 (by decide) (by decide)).mono fun d h1 ⟨P1, U1, way, i0, i1, e⟩ => ?_
  subst e
  refine (pickT_T (n := n + 1) P1 (by omega) hpl (by rw [List.length_map]; omega)).mono fun d h2 ⟨P2, U2, hd⟩ => ?_
  obtain ⟨w, hw1, rfl⟩ := List.mem_map.mp hd
  have hw := hps w hw1
  have U := U1.trans U2
  refine ⟨le2, rfl, ?_⟩
  have hl2 := U.at hl hlp
  have hf2 := U.at hf hfp
  -- store
  have sto : ∀ h3, Pen p q (c + 2) h3 → Up p h h3 → (run (Pg G) (n + 3) 10 [.ref p, .ref kl] h3).T fun d h' => [D.str [115, 116, 111, 114, 101], D.str w, d].length ≤ L ∧ Pen p q (c + 4) h' ∧ Up p h h' ∧ Stm (.tup [D.str [115, 116, 111, 114, 101], D.str w, d]) := fun h3 P3 U3 =>
    (value_T (n := n) P3 (by omega) (U3.at hl hlp) hlp hwl hl1).mono fun d h' ⟨P4, U4, hv⟩ => ⟨le3, P4, U3.trans U4, .store hw hv⟩
  rw [T_cons, T_iff, TB_or, TB_cmp]
  simp only [TE_c, TE_v, TE_tup, TE_lst, TE_dct, TE_bin, TE_cmp, TE_ite, TE_and, TE_or, TE_not, TE_neg, TE_ix, TE_sl, TO_none, TO_some, TE_call, TE_bi, TE_mt, TE_isi, TEs_nil, TEs_cons, TKV_nil, TKV_cons, TI_seq, TI_rng1, TI_rng2, TT_nm, TT_tp, TT_sub, TTs_nil, TTs_cons, TB_cmp, TB_isi, TB_not, TB_and, TB_or, TB_ite, TC_nil, TC_cons, Res.T_ok, List.getElem?_cons_succ, List.getElem?_cons_zero, List.set_cons_succ, List.set_cons_zero, Option.some.injEq, exists_eq_left', D.int.injEq, D.str.injEq, D.bl.injEq, D.tup.injEq]
  refine ⟨_, cmp_lt, ?_⟩
  by_cases h3 : way < 3
  · rw [if_pos (decide_eq_true h3), if_pos trivial, T_cons, T_ret]
    simp only [TE_c, TE_v, TE_tup, TE_lst, TE_dct, TE_bin, TE_cmp, TE_ite, TE_and, TE_or, TE_not, TE_neg, TE_ix, TE_sl, TO_none, TO_some, TE_call, TE_bi, TE_mt, TE_isi, TEs_nil, TEs_cons, TKV_nil, TKV_cons, TI_seq, TI_rng1, TI_rng2, TT_nm, TT_tp, TT_sub, TTs_nil, TTs_cons, TB_cmp, TB_isi, TB_not, TB_and, TB_or, TB_ite, TC_nil, TC_cons, Res.T_ok, List.getElem?_cons_succ, List.getElem?_cons_zero, List.set_cons_succ, List.set_cons_zero, Option.some.injEq, exists_eq_left', D.int.injEq, D.str.injEq, D.bl.injEq, D.tup.injEq]
    exact sto h2 P2 U
  · rw [if_neg (fun z => h3 (of_decide_eq_true z))]
    refine ⟨le0, ?_⟩
    have hf3 : (h2 ++ [MO.lst []])[kf]? = some (.lst (wf.map .str)) := by rw [List.getElem?_append_left (List.getElem?_eq_some_iff.mp hf2).1]; exact hf2
    refine ⟨_, eq_nil hf3 (List.getElem?_concat_length ..), ?_⟩
    have P3 : Pen p q (c + 2) (h2 ++ [MO.lst []]) := P2.app
    have U3 : Up p h (h2 ++ [MO.lst []]) := U.trans Up.app
    generalize h2 ++ [MO.lst []] = h4 at P3 U3 hf3
    have rest : wf.isEmpty = false ∨ ¬ way < 8 → (exSs ⟨run (Pg G) (n + 3), itω⟩ (.cons (.iff (.cmp .lt (.v 4) (.c (.int (7)))) (.cons (.ret (.tup (.cons (.c (.str [108, 111, 97, 100])) (.cons (.ix (.v 3) (.c (.int (0)))) (.cons (.v 5) .nil))))) .nil) .nil) (.cons (.ret (.ite (.and (.cmp .eq (.v 4) (.c (.int (7)))) (.cmp .ne (.v 3) (.lst .nil))) (.tup (.cons (.c (.str [115, 119, 97, 112])) (.cons (.ix (.v 3) (.c (.int (0)))) (.cons (.v 5) (.cons (.call 10 (.cons (.v 0) (.cons (.v 2) .nil))) .nil))))) (.tup (.cons (.c (.str [102, 101, 110, 99, 101])) .nil)))) .nil)) [some (.ref p), some (.tup (ps.map .str)), some (.ref kl), some (.ref kf), some (.int way), some (.str w)] h4).T
        (fun _ h_2 => Pen p q (c + 4) h_2 ∧ Up p h h_2 ∧ Stm D.non) (fun d h' => Pen p q (c + 4) h' ∧ Up p h h' ∧ Stm d) No No := by
      intro hor
      rw [T_cons, T_iff, TB_cmp]
      simp only [TE_c, TE_v, TE_tup, TE_lst, TE_dct, TE_bin, TE_cmp, TE_ite, TE_and, TE_or, TE_not, TE_neg, TE_ix, TE_sl, TO_none, TO_some, TE_call, TE_bi, TE_mt, TE_isi, TEs_nil, TEs_cons, TKV_nil, TKV_cons, TI_seq, TI_rng1, TI_rng2, TT_nm, TT_tp, TT_sub, TTs_nil, TTs_cons, TB_cmp, TB_isi, TB_not, TB_and, TB_or, TB_ite, TC_nil, TC_cons, Res.T_ok, List.getElem?_cons_succ, List.getElem?_cons_zero, List.set_cons_succ, List.set_cons_zero, Option.some.injEq, exists_eq_left', D.int.injEq, D.str.injEq, D.bl.injEq, D.tup.injEq]
      refine ⟨_, cmp_lt, ?_⟩
      by_cases h7 : way < 7
      · have hwe : wf.isEmpty = false := hor.elim id fun z => absurd (show way < 8 by omega) z
        obtain ⟨r, hr, er⟩ := index_first hf3 hwe hwf
        rw [if_pos (decide_eq_true h7), T_cons, T_ret]
        simp only [TE_c, TE_v, TE_tup, TE_lst, TE_dct, TE_bin, TE_cmp, TE_ite, TE_and, TE_or, TE_not, TE_neg, TE_ix, TE_sl, TO_none, TO_some, TE_call, TE_bi, TE_mt, TE_isi, TEs_nil, TEs_cons, TKV_nil, TKV_cons, TI_seq, TI_rng1, TI_rng2, TT_nm, TT_tp, TT_sub, TTs_nil, TTs_cons, TB_cmp, TB_isi, TB_not, TB_and, TB_or, TB_ite, TC_nil, TC_cons, Res.T_ok, List.getElem?_cons_succ, List.getElem?_cons_zero, List.set_cons_succ, List.set_cons_zero, Option.some.injEq, exists_eq_left', D.int.injEq, D.str.injEq, D.bl.injEq, D.tup.injEq]
        exact ⟨_, er, le3, P3.mono (by omega), U3, .load hr hw⟩
      · rw [if_neg (fun z => h7 (of_decide_eq_true z)), T_nil, T_cons, T_ret]
        simp only [TE_c, TE_v, TE_tup, TE_lst, TE_dct, TE_bin, TE_cmp, TE_ite, TE_and, TE_or, TE_not, TE_neg, TE_ix, TE_sl, TO_none, TO_some, TE_call, TE_bi, TE_mt, TE_isi, TEs_nil, TEs_cons, TKV_nil, TKV_cons, TI_seq, TI_rng1, TI_rng2, TT_nm, TT_tp, TT_sub, TTs_nil, TTs_cons, TB_cmp, TB_isi, TB_not, TB_and, TB_or, TB_ite, TC_nil, TC_cons, Res.T_ok, List.getElem?_cons_succ, List.getElem?_cons_zero, List.set_cons_succ, List.set_cons_zero, Option.some.injEq, exists_eq_left', D.int.injEq, D.str.injEq, D.bl.injEq, D.tup.injEq]
        refine ⟨_, cmp_eqi, ?_⟩
        by_cases h77 : way = 7
        · rw [if_pos (by rw [h77]; rfl)]
          have hwe : wf.isEmpty = false := hor.elim id fun z => absurd (show way < 8 by omega) z
          have hf4 : (h4 ++ [MO.lst []])[kf]? = some (.lst (wf.map .str)) := by rw [List.getElem?_append_left (List.getElem?_eq_some_iff.mp hf3).1]; exact hf3
          refine ⟨le0, _, ne_nil hf4 (List.getElem?_concat_length ..), ?_⟩
          rw [hwe, Bool.not_false, if_pos rfl]
          obtain ⟨r, hr, er⟩ := index_first hf4 hwe hwf
          refine ⟨_, er, (value_T (n := n) P3.app (by omega) ((U3.trans Up.app).at hl hlp) hlp hwl hl1).mono fun d h' ⟨P5, U5, hv⟩ => ⟨le4, P5, (U3.trans Up.app).trans U5, .swap hr hw hv⟩⟩
        · rw [if_neg (fun z => h77 (eq_of_beq z)), if_neg (by decide)]
          exact ⟨le1, P3.mono (by omega), U3, .fence⟩
    cases hwe : wf.isEmpty with
    | true =>
      rw [if_pos rfl]
      refine ⟨_, cmp_lt, ?_⟩
      by_cases h8 : way < 8
      · rw [if_pos (decide_eq_true h8), T_cons, T_ret]
        simp only [TE_c, TE_v, TE_tup, TE_lst, TE_dct, TE_bin, TE_cmp, TE_ite, TE_and, TE_or, TE_not, TE_neg, TE_ix, TE_sl, TO_none, TO_some, TE_call, TE_bi, TE_mt, TE_isi, TEs_nil, TEs_cons, TKV_nil, TKV_cons, TI_seq, TI_rng1, TI_rng2, TT_nm, TT_tp, TT_sub, TTs_nil, TTs_cons, TB_cmp, TB_isi, TB_not, TB_and, TB_or, TB_ite, TC_nil, TC_cons, Res.T_ok, List.getElem?_cons_succ, List.getElem?_cons_zero, List.set_cons_succ, List.set_cons_zero, Option.some.injEq, exists_eq_left', D.int.injEq, D.str.injEq, D.bl.injEq, D.tup.injEq]
        exact sto h4 P3 U3
      · rw [if_neg (fun z => h8 (of_decide_eq_true z)), T_nil]
        exact rest (.inr h8)
    | false =>
      rw [if_neg (by decide), if_neg (by decide), T_nil]
      exact rest (.inl hwe)
end HD
end

section
set_option linter.all false
set_option maxRecDepth 100000
set_option maxHeartbeats 1000000
/-! MP6: threads. -/
namespace HD
open MI
variable {G : List D → Hs → Res D} {n : Nat}
def REGS : List S := [[114], [115], [113], [97, 49], [114, 48]]
theorem regs_names : Nms REGS := by unfold Nms; decide
/-- a list of names that lies at k -/
def NL (k : Nat) (h : Hs) (m : Nat) : Prop := ∃ ws : List S, h[k]? = some (.lst (ws.map .str)) ∧ Nms ws ∧ ws.length ≤ m
theorem strs_of_mem {es : List D} {ws : List S} (hm : ∀ e ∈ es, e ∈ ws.map D.str) (hw : Nms ws) : ∃ vs : List S, es = vs.map .str ∧ Nms vs := by
  induction es with
  | nil => exact ⟨[], rfl, fun _ z => by cases z⟩
  | cons e es ih =>
    obtain ⟨vs, rfl, hv⟩ := ih fun x hx => hm x (List.mem_cons_of_mem _ hx)
    obtain ⟨w, hw1, rfl⟩ := List.mem_map.mp (hm e (by simp))
    refine ⟨w :: vs, rfl, fun x hx => ?_⟩
    rcases List.mem_cons.mp hx with rfl | hx
    · exact hw x hw1
    · exact hv x hx
theorem rangeS_int {m : Nat} (hm : m < 1073741824) : rangeS (.int 0) (.int (m : Int)) = some (.vals (rngV 0 (m : Int))) := rangeS_nat hm
theorem add_tup {a b : List D} {h : Hs} {Q : D → Hs → Prop} (hl : a.length + b.length ≤ L) (q : Q (.tup (a ++ b)) h) : (addD (.tup a) (.tup b) h).T Q := by
  show (if a.length + b.length ≤ L then Res.ok (D.tup (a ++ b)) h else .stuck).T Q
  rw [if_pos hl]; exact q
theorem add_ref {m k : Nat} {a b : List D} {h : Hs} {Q : D → Hs → Prop} (hm : h[m]? = some (.lst a)) (hk : h[k]? = some (.lst b)) (hl : a.length + b.length ≤ L) (q : Q (.ref h.length) (h ++ [.lst (a ++ b)])) : (addD (.ref m) (.ref k) h).T Q := by
  unfold addD
  simp only [hm, hk, newL]
  rw [if_pos (by rw [List.length_append]; exact hl)]
  exact q
theorem add_str {a b : S} {h : Hs} {Q : D → Hs → Prop} (hl : a.length + b.length ≤ L) (q : Q (.str (a ++ b)) h) : (addD (.str a) (.str b) h).T Q := by
  show (if a.length + b.length ≤ L then Res.ok (D.str (a ++ b)) h else .stuck).T Q
  rw [if_pos hl]; exact q
theorem slice_ref {k : Nat} {ds : List D} {l r : Option Int} {h : Hs} {Q : D → Hs → Prop} (hk : h[k]? = some (.lst ds)) (q : Q (.ref h.length) (h ++ [.lst (cut ds l r)])) : (slice (.ref k) l r h).T Q := by
  unfold slice
  simp only [seqOf, hk]
  exact q
/-- is it a statement that loads -/
def isLd (d : D) : Bool := match d with
  | .tup (.str w :: _) => decide (w ∈ [sLoad, sSwap])
  | _ => false
theorem stm_ix {d : D} (s : Stm d) (h : Hs) : ∃ w, index d (.int 0) h = some (.str w) ∧ isLd d = decide (w ∈ [sLoad, sSwap]) := by
  cases s with
  | store hw hv => exact ⟨sStore, rfl, rfl⟩
  | load hr hw => exact ⟨sLoad, rfl, rfl⟩
  | swap hr hw hv => exact ⟨sSwap, rfl, rfl⟩
  | fence => exact ⟨sFence, rfl, rfl⟩
theorem stm_reg {d : D} (s : Stm d) (hl : isLd d = true) (h : Hs) : ∃ r ∈ NAMES, index d (.int 1) h = some (.str r) := by
  cases s with
  | store hw hv => exact absurd (show false = true from hl) (by decide)
  | load hr hw => exact ⟨_, hr, rfl⟩
  | swap hr hw hv => exact ⟨_, hr, rfl⟩
  | fence => exact absurd (show false = true from hl) (by decide)
theorem cut_strs {ws : List S} {l r : Option Int} : cut (ws.map D.str) l r = (cut ws l r).map .str := by
  unfold cut
  simp only [List.length_map, List.map_drop, List.map_take]
theorem cut_mem {ws : List S} {l r : Option Int} : ∀ w ∈ cut ws l r, w ∈ ws := fun w hw => by
  unfold cut at hw
  exact List.mem_of_mem_take (List.mem_of_mem_drop hw)
theorem cut_len {α : Type} {ws : List α} {l r : Option Int} : (cut ws l r).length ≤ ws.length := by
  unfold cut
  simp only [List.length_drop, List.length_take]
  omega
theorem thread_T {p q c : Nat} {h : Hs} {ps : List S} {m : Nat} (P : Pen p q c h) (hc : c + 5 + 4 * m < 1000000000000) (hps : Nms ps) (hp0 : ps ≠ []) (hp1 : ps.length < 1048576) (hm : m ≤ 1000) :
    (run (Pg G) (n + 5) 12 [.ref p, .tup (ps.map .str), .int (m : Int)] h).T fun d h' => Pen p q (c + 5 + 4 * m) h' ∧ Up p h h' ∧ ∃ sts : List D, d = .tup sts ∧ sts.length = m ∧ ∀ s ∈ sts, Stm s := by
  refine run_T rfl rfl ?_
  show (exSs _ f12 [some (.ref p), some (.tup (ps.map .str)), some (.int (m : Int)), none, none, none, none, none] h).T _ _ _ _
  unfold f12
  rw [T_cons, T_asg]
  simp -implicitDefEqProofs only [TE_c, TE_v, TE_tup, TE_lst, TE_dct, TE_bin, TE_cmp, TE_ite, TE_and, TE_or, TE_not, TE_neg, TE_ix, TE_sl, TO_none, TO_some, TE_call, TE_bi, TE_mt, TE_isi, TEs_nil, TEs_cons, TKV_nil, TKV_cons, TI_seq, TI_rng1, TI_rng2, TT_nm, TT_tp, TT_sub, TTs_nil, TTs_cons, TB_cmp, TB_isi, TB_not, TB_and, TB_or, TB_ite, TC_nil, TC_cons, Res.T_ok, List.getElem?_cons_succ, List.getElem?_cons_zero, List.set_cons_succ, List.set_cons_zero, Option.some.injEq, exists_eq_left', D.int.injEq, D.str.injEq, D.bl.injEq, D.tup.injEq]
  have le5 : ([.str [114], .str [115], .str [113], .str [97, 49], .str [114, 48]] : List D).length ≤ L := by show 5 ≤ 16777216; decide
  refine ⟨le5, ?_⟩
  have hpl := P.lt
  have hr : (h ++ [MO.lst [D.str [114], D.str [115], D.str [113], D.str [97, 49], D.str [114, 48]]])[h.length]? = some (.lst (REGS.map .str)) := List.getElem?_concat_length ..
  refine (shuffled_T (n := n + 2) (ds := REGS.map .str) (c := c) P.app (by show c + 5 < _; omega) hr (by show 5 < 1048576; decide)).mono fun d h1 ⟨P1, U1, r, es, e, hr1, hr2, hlen, hmem⟩ => ?_
  subst e
  have U1' := Up.app.trans U1
  obtain ⟨wf0, rfl, hwf0⟩ := strs_of_mem hmem regs_names
  simp only [List.length_map] at hlen
  have hlen' : wf0.length = 5 := hlen
  refine ⟨le0, le0, le3, rfl, ?_⟩
  rw [T_cons]
  have hp1' := P1.lt
  have hr1' : h.length + 1 ≤ r := by rw [List.length_append] at hr1; exact hr1
  have hr2l := (List.getElem?_eq_some_iff.mp hr2).1
  generalize hσ : [some (D.ref p), some (D.tup (List.map D.str ps)), some (D.int ↑m), none, some (D.ref r), some (D.ref (List.length h1)), some (D.tup []), none] = σ0
  refine T_for (fun i σ h' => Pen p q (c + 5 + 4 * i) h' ∧ Up p h h' ∧ ∃ (s3 s7 : Option D) (kf kl : Nat) (sts : List D) (wf wl : List S), σ = [some (.ref p), some (.tup (ps.map .str)), some (.int (m : Int)), s3, some (.ref kf), some (.ref kl), some (.tup sts), s7] ∧ sts.length = i ∧ (∀ s ∈ sts, Stm s) ∧
      kf ≠ p ∧ kl ≠ p ∧ h'[kf]? = some (.lst (wf.map .str)) ∧ h'[kl]? = some (.lst (wl.map .str)) ∧ Nms wf ∧ Nms wl ∧ wl.length ≤ i) (rngV 0 (m : Int)) ?_ ?_ ?_
  · subst hσ
    simp -implicitDefEqProofs only [TE_c, TE_v, TE_tup, TE_lst, TE_dct, TE_bin, TE_cmp, TE_ite, TE_and, TE_or, TE_not, TE_neg, TE_ix, TE_sl, TO_none, TO_some, TE_call, TE_bi, TE_mt, TE_isi, TEs_nil, TEs_cons, TKV_nil, TKV_cons, TI_seq, TI_rng1, TI_rng2, TT_nm, TT_tp, TT_sub, TTs_nil, TTs_cons, TB_cmp, TB_isi, TB_not, TB_and, TB_or, TB_ite, TC_nil, TC_cons, Res.T_ok, List.getElem?_cons_succ, List.getElem?_cons_zero, List.set_cons_succ, List.set_cons_zero, Option.some.injEq, exists_eq_left', D.int.injEq, D.str.injEq, D.bl.injEq, D.tup.injEq]
    refine ⟨_, rangeS_int (by omega), rfl, P1.app, U1'.trans Up.app, none, none, r, h1.length, [], wf0, [], rfl, rfl, by simp, by omega, by omega, ?_, List.getElem?_concat_length .., hwf0, by simp [Nms], Nat.le_refl _⟩
    rw [List.getElem?_append_left hr2l]; exact hr2
  · rintro i d σ h' hd ⟨P', U', s3, s7, kf, kl, sts, wf, wl, rfl, hsl, hst, hfp, hlp, hf, hl, hwf, hwl, hll⟩
    obtain ⟨hi, rfl⟩ := rngV_get hd
    simp -implicitDefEqProofs only [TE_c, TE_v, TE_tup, TE_lst, TE_dct, TE_bin, TE_cmp, TE_ite, TE_and, TE_or, TE_not, TE_neg, TE_ix, TE_sl, TO_none, TO_some, TE_call, TE_bi, TE_mt, TE_isi, TEs_nil, TEs_cons, TKV_nil, TKV_cons, TI_seq, TI_rng1, TI_rng2, TT_nm, TT_tp, TT_sub, TTs_nil, TTs_cons, TB_cmp, TB_isi, TB_not, TB_and, TB_or, TB_ite, TC_nil, TC_cons, Res.T_ok, List.getElem?_cons_succ, List.getElem?_cons_zero, List.set_cons_succ, List.set_cons_zero, Option.some.injEq, exists_eq_left', D.int.injEq, D.str.injEq, D.bl.injEq, D.tup.injEq]
    rw [T_cons, T_asg]
    simp -implicitDefEqProofs only [TE_c, TE_v, TE_tup, TE_lst, TE_dct, TE_bin, TE_cmp, TE_ite, TE_and, TE_or, TE_not, TE_neg, TE_ix, TE_sl, TO_none, TO_some, TE_call, TE_bi, TE_mt, TE_isi, TEs_nil, TEs_cons, TKV_nil, TKV_cons, TI_seq, TI_rng1, TI_rng2, TT_nm, TT_tp, TT_sub, TTs_nil, TTs_cons, TB_cmp, TB_isi, TB_not, TB_and, TB_or, TB_ite, TC_nil, TC_cons, Res.T_ok, List.getElem?_cons_succ, List.getElem?_cons_zero, List.set_cons_succ, List.set_cons_zero, Option.some.injEq, exists_eq_left', D.int.injEq, D.str.injEq, D.bl.injEq, D.tup.injEq]
    refine (statement_T (n := n) P' (by omega) hl hf hlp hfp hps hwl hwf hp0 hp1 (by omega)).mono fun d h2 ⟨P2, U2, hs⟩ => ?_
    have hl2 := U2.at hl hlp
    have hf2 := U2.at hf hfp
    rw [T_cons, T_asg]
    simp -implicitDefEqProofs only [TE_c, TE_v, TE_tup, TE_lst, TE_dct, TE_bin, TE_cmp, TE_ite, TE_and, TE_or, TE_not, TE_neg, TE_ix, TE_sl, TO_none, TO_some, TE_call, TE_bi, TE_mt, TE_isi, TEs_nil, TEs_cons, TKV_nil, TKV_cons, TI_seq, TI_rng1, TI_rng2, TT_nm, TT_tp, TT_sub, TTs_nil, TTs_cons, TB_cmp, TB_isi, TB_not, TB_and, TB_or, TB_ite, TC_nil, TC_cons, Res.T_ok, List.getElem?_cons_succ, List.getElem?_cons_zero, List.set_cons_succ, List.set_cons_zero, Option.some.injEq, exists_eq_left', D.int.injEq, D.str.injEq, D.bl.injEq, D.tup.injEq, binop]
    refine ⟨le1, add_tup (by show sts.length + 1 ≤ 16777216; omega) ?_⟩
    rw [T_cons, T_iff, TB_cmp]
    simp -implicitDefEqProofs only [TE_c, TE_v, TE_tup, TE_lst, TE_dct, TE_bin, TE_cmp, TE_ite, TE_and, TE_or, TE_not, TE_neg, TE_ix, TE_sl, TO_none, TO_some, TE_call, TE_bi, TE_mt, TE_isi, TEs_nil, TEs_cons, TKV_nil, TKV_cons, TI_seq, TI_rng1, TI_rng2, TT_nm, TT_tp, TT_sub, TTs_nil, TTs_cons, TB_cmp, TB_isi, TB_not, TB_and, TB_or, TB_ite, TC_nil, TC_cons, Res.T_ok, List.getElem?_cons_succ, List.getElem?_cons_zero, List.set_cons_succ, List.set_cons_zero, Option.some.injEq, exists_eq_left', D.int.injEq, D.str.injEq, D.bl.injEq, D.tup.injEq]
    obtain ⟨w, ew, el⟩ := stm_ix hs h2
    refine ⟨_, ew, le2, _, isIn_strs (h := h2) [sLoad, sSwap], ?_⟩
    rw [← el]
    have hst' : ∀ s ∈ sts ++ [d], Stm s := fun s hs' => by
      rcases List.mem_append.mp hs' with z | z
      · exact hst s z
      · rw [List.mem_singleton.mp z]; exact hs
    have hsl' : (sts ++ [d]).length = i + 1 := by rw [List.length_append, hsl]; rfl
    cases hb : isLd d with
    | true =>
      obtain ⟨rr, hrr, er⟩ := stm_reg hs hb h2
      rw [if_pos rfl, T_cons, T_asg]
      simp -implicitDefEqProofs only [TE_c, TE_v, TE_tup, TE_lst, TE_dct, TE_bin, TE_cmp, TE_ite, TE_and, TE_or, TE_not, TE_neg, TE_ix, TE_sl, TO_none, TO_some, TE_call, TE_bi, TE_mt, TE_isi, TEs_nil, TEs_cons, TKV_nil, TKV_cons, TI_seq, TI_rng1, TI_rng2, TT_nm, TT_tp, TT_sub, TTs_nil, TTs_cons, TB_cmp, TB_isi, TB_not, TB_and, TB_or, TB_ite, TC_nil, TC_cons, Res.T_ok, List.getElem?_cons_succ, List.getElem?_cons_zero, List.set_cons_succ, List.set_cons_zero, Option.some.injEq, exists_eq_left', D.int.injEq, D.str.injEq, D.bl.injEq, D.tup.injEq, binop]
      refine ⟨_, er, le1, ?_⟩
      have hl3 : (h2 ++ [MO.lst [D.str rr]])[kl]? = some (.lst (wl.map .str)) := by rw [List.getElem?_append_left (List.getElem?_eq_some_iff.mp hl2).1]; exact hl2
      have hf3 : (h2 ++ [MO.lst [D.str rr]])[kf]? = some (.lst (wf.map .str)) := by rw [List.getElem?_append_left (List.getElem?_eq_some_iff.mp hf2).1]; exact hf2
      refine add_ref hl3 (List.getElem?_concat_length ..) (by rw [List.length_map]; show wl.length + 1 ≤ 16777216; omega) ?_
      have U3 : Up p h (h2 ++ [MO.lst [D.str rr]]) := (U'.trans U2).trans Up.app
      have P3 : Pen p q _ (h2 ++ [MO.lst [D.str rr]]) := P2.app
      have hp3 := P3.lt
      generalize h2 ++ [MO.lst [D.str rr]] = h3 at hl3 hf3 U3 P3 hp3
      have hf4 : (h3 ++ [MO.lst (wl.map D.str ++ [.str rr])])[kf]? = some (.lst (wf.map .str)) := by rw [List.getElem?_append_left (List.getElem?_eq_some_iff.mp hf3).1]; exact hf3
      refine slice_ref hf4 ?_
      refine ⟨le2, rfl, ?_⟩
      rw [T_nil, T_nil]
      refine ⟨(P3.app.app).mono (by omega), (U3.trans Up.app).trans Up.app, _, _, _, _, sts ++ [d], cut wf (some 1) none, wl ++ [rr], rfl, hsl', hst', ?_, ?_, ?_, ?_, fun w hw => hwf w (cut_mem w hw), ?_, by rw [List.length_append]; show _ + 1 ≤ _; omega⟩
      · rw [List.length_append]; show h3.length + 1 ≠ p; omega
      · omega
      · rw [← cut_strs]; exact List.getElem?_concat_length ..
      · rw [List.getElem?_append_left (by simp), List.map_append]; exact List.getElem?_concat_length ..
      · intro w hw
        rcases List.mem_append.mp hw with z | z
        · exact hwl w z
        · rw [List.mem_singleton.mp z]; exact hrr
    | false =>
      rw [if_neg (by decide), T_nil, T_nil]
      exact ⟨P2.mono (by omega), U'.trans U2, _, _, _, _, sts ++ [d], wf, wl, rfl, hsl', hst', hfp, hlp, hf2, hl2, hwf, hwl, by omega⟩
  · rintro σ h' ⟨P', U', s3, s7, kf, kl, sts, wf, wl, rfl, hsl, hst, hfp, hlp, hf, hl, hwf, hwl, hll⟩
    rw [rngV_len] at P' hsl
    rw [T_cons, T_ret]
    simp -implicitDefEqProofs only [TE_c, TE_v, TE_tup, TE_lst, TE_dct, TE_bin, TE_cmp, TE_ite, TE_and, TE_or, TE_not, TE_neg, TE_ix, TE_sl, TO_none, TO_some, TE_call, TE_bi, TE_mt, TE_isi, TEs_nil, TEs_cons, TKV_nil, TKV_cons, TI_seq, TI_rng1, TI_rng2, TT_nm, TT_tp, TT_sub, TTs_nil, TTs_cons, TB_cmp, TB_isi, TB_not, TB_and, TB_or, TB_ite, TC_nil, TC_cons, Res.T_ok, List.getElem?_cons_succ, List.getElem?_cons_zero, List.set_cons_succ, List.set_cons_zero, Option.some.injEq, exists_eq_left', D.int.injEq, D.str.injEq, D.bl.injEq, D.tup.injEq]
    exact ⟨P', U', hsl, hst⟩
end HD
end

section
set_option linter.all false
set_option maxRecDepth 100000
set_option maxHeartbeats 1000000
/-! MR3: comprehensions without tests; over a list that stays. -/
namespace MI
theorem T_lcV {κ : Orc} {own : List Nat} {e : IE} {t : IT} {it : II} {σ : Env} {h : Hs} {Q : D → Hs → Prop} (I : Nat → List D → Hs → Prop) (ds : List D) (hs : (evI κ it σ h).T fun s h1 => s = .vals ds ∧ I 0 [] h1)
    (step : ∀ i d acc h, ds[i]? = some d → I i acc h → (evT κ t d (wipeE σ own) h).T fun σ h => (evE κ e σ h).T fun x h => acc.length < L ∧ I (i + 1) (acc ++ [x]) h)
    (fin : ∀ acc h, I ds.length acc h → Q (.ref h.length) (h ++ [.lst acc])) : (evE κ (.lc own e t it .nil) σ h).T Q :=
  T_lc I ds hs (fun i d acc h hd hI => (step i d acc h hd hI).mono fun σ h q => by rw [TC_nil, if_pos rfl]; exact q) fin
theorem T_lcD {κ : Orc} {own : List Nat} {e : IE} {t : IT} {it : II} {σ : Env} {h : Hs} {Q : D → Hs → Prop} (I : Nat → List D → Hs → Prop) (n : Nat) (ds : List D) (hs : (evI κ it σ h).T fun s h1 => s = .dyn n ∧ seqOf h1 n = some ds ∧ I 0 [] h1)
    (keep : ∀ i acc h, I i acc h → seqOf h n = some ds)
    (step : ∀ i d acc h, ds[i]? = some d → I i acc h → (evT κ t d (wipeE σ own) h).T fun σ h => (evE κ e σ h).T fun x h => acc.length < L ∧ I (i + 1) (acc ++ [x]) h)
    (fin : ∀ acc h, I ds.length acc h → Q (.ref h.length) (h ++ [.lst acc])) : (evE κ (.lc own e t it .nil) σ h).T Q := by
  show ((evI κ it σ h).bind fun s h => (lcS (fun d h => (evT κ t d (wipeE σ own) h).bind fun σ h => (evC κ .nil σ h).bind fun b h => if b then (evE κ e σ h).bind fun x h => .ok (some x) h else .ok none h) s h).bind fun ds h => new (.lst ds) h).T Q
  rw [Res.T_bind]
  refine hs.mono fun s h1 ⟨es, hq, hI⟩ => ?_
  subst es
  rw [Res.T_bind]
  unfold lcS
  have el : srcLen (.dyn n) h1 = ds.length := by simp only [srcLen, hq]
  rw [el]
  refine lcL_T (s := .dyn n) (I := I) (N := ds.length) (fun i acc h hi hI => ⟨ds[i], ?_, ?_⟩) (fun acc h hI => ⟨?_, fin acc h hI⟩) ds.length 0 [] h1 (by omega) hI
  · simp only [srcAt, keep i acc h hI]; exact List.getElem?_eq_getElem hi
  · rw [Res.T_bind]
    refine (step i ds[i] acc h (List.getElem?_eq_getElem hi) hI).mono fun σ h q => ?_
    show ((evE κ e σ h).bind fun x h => Res.ok (some x) h).T _
    rw [Res.T_bind]
    exact q
  · simp only [srcEnd, keep _ acc h hI]; exact decide_eq_true (Nat.le_refl _)
end MI
end

section
set_option linter.all false
set_option maxRecDepth 100000
set_option maxHeartbeats 1000000
/-! MP7: ends of asks. -/
namespace HD
open MI
variable {G : List D → Hs → Res D} {n : Nat}
def sPlace : S := [112, 108, 97, 99, 101]
mutual
theorem exT_plain {f : Nat → Option D} : ∀ d : D, plain d = true → exT f d = some d
  | .non, _ => rfl
  | .bl _, _ => rfl
  | .int _, _ => rfl
  | .str _, _ => rfl
  | .tup ds, h => by
    have h' : plains ds = true := h
    show (exTs f ds).map D.tup = _
    rw [exTs_plain ds h']; rfl
theorem exTs_plain {f : Nat → Option D} : ∀ ds : List D, plains ds = true → exTs f ds = some ds
  | [], _ => rfl
  | d :: ds, h => by
    have h' : (plain d && plains ds) = true := h
    rw [Bool.and_eq_true] at h'
    show (match exT f d, exTs f ds with
    | some e, some es => some (e :: es)
    | _, _ => none) = _
    rw [exT_plain d h'.1, exTs_plain ds h'.2]
end
theorem plains_of : ∀ ds : List D, (∀ d ∈ ds, plain d = true) → plains ds = true
  | [], _ => rfl
  | d :: ds, h => by
    show (plain d && plains ds) = true
    rw [h d (by simp), plains_of ds fun x hx => h x (List.mem_cons_of_mem _ hx)]
    rfl
theorem plains_strs (ws : List S) : plains (ws.map .str) = true := plains_of _ fun d hd => by
  obtain ⟨w, _, rfl⟩ := List.mem_map.mp hd
  rfl
theorem ne_nilG {h : Hs} {k e : Nat} {ds : List D} (hk : h[k]? = some (.lst ds)) (hd : plains ds = true) (he : h[e]? = some (.lst [])) : cmpop .ne (.ref k) (.ref e) h = some (!ds.isEmpty) := by
  have e1 : ex h (.ref k) = some (.lst ds) := by
    show exR h 8 k = _
    unfold exR
    simp only [hk, exTs_plain ds hd, Option.map_some]
  have e2 : ex h (.ref e) = some (.lst []) := by
    show exR h 8 e = _
    unfold exR
    simp only [he]
    rfl
  show (eqB h (.ref k) (.ref e)).map (!·) = _
  unfold eqB
  simp only [e1, e2]
  have e3 : min (dep (.lst ds)) (dep (.lst [])) ≤ 64 := Nat.le_trans (Nat.min_le_right _ _) (by decide)
  rw [if_pos e3]
  cases ds <;> rfl
theorem ne_tupnil {h : Hs} {ds : List D} (hd : plains ds = true) : cmpop .ne (.tup ds) (.tup []) h = some (!ds.isEmpty) := by
  show (eqB h (.tup ds) (.tup [])).map (!·) = _
  have e1 : ex h (.tup ds) = some (.tup ds) := exT_plain (.tup ds) hd
  have e2 : ex h (.tup []) = some (.tup []) := rfl
  unfold eqB
  simp only [e1, e2]
  have e3 : min (dep (.tup ds)) (dep (.tup [])) ≤ 64 := Nat.le_trans (Nat.min_le_right _ _) (by decide)
  rw [if_pos e3]
  cases ds <;> rfl
theorem registers_T (sts : List D) (hs : ∀ s ∈ sts, Stm s) (hl : sts.length ≤ 1000) (h : Hs) : (run (Pg G) (n + 1) 13 [.tup sts] h).T fun d h' => ∃ ws : List S, Nms ws ∧ ws.length ≤ sts.length ∧ d = .ref h.length ∧ h' = h ++ [.lst (ws.map .str)] := by
  refine run_T rfl rfl ?_
  show (exSs _ f13 [some (.tup sts), none] h).T _ _ _ _
  unfold f13
  rw [T_cons, T_ret]
  refine T_lc (fun i acc h' => h' = h ∧ ∃ ws : List S, acc = ws.map .str ∧ Nms ws ∧ ws.length ≤ i) sts ?_ ?_ ?_
  · simp -implicitDefEqProofs only [TE_c, TE_v, TE_tup, TE_lst, TE_dct, TE_bin, TE_cmp, TE_ite, TE_and, TE_or, TE_not, TE_neg, TE_ix, TE_sl, TO_none, TO_some, TE_call, TE_bi, TE_mt, TE_isi, TEs_nil, TEs_cons, TKV_nil, TKV_cons, TI_seq, TI_rng1, TI_rng2, TT_nm, TT_tp, TT_sub, TTs_nil, TTs_cons, TB_cmp, TB_isi, TB_not, TB_and, TB_or, TB_ite, TC_nil, TC_cons, Res.T_ok, List.getElem?_cons_succ, List.getElem?_cons_zero, List.set_cons_succ, List.set_cons_zero, Option.some.injEq, exists_eq_left', D.int.injEq, D.str.injEq, D.bl.injEq, D.tup.injEq]
    exact ⟨_, rfl, rfl, trivial, [], rfl, by simp [Nms], Nat.le_refl _⟩
  · rintro i d acc h' hd ⟨rfl, ws, rfl, hws, hwl⟩
    have hmem := List.mem_of_getElem? hd
    have hst := hs d hmem
    have hi := (List.getElem?_eq_some_iff.mp hd).1
    show (evT _ (.nm 1) d [some (.tup sts), none] h').T _
    simp -implicitDefEqProofs only [TE_c, TE_v, TE_tup, TE_lst, TE_dct, TE_bin, TE_cmp, TE_ite, TE_and, TE_or, TE_not, TE_neg, TE_ix, TE_sl, TO_none, TO_some, TE_call, TE_bi, TE_mt, TE_isi, TEs_nil, TEs_cons, TKV_nil, TKV_cons, TI_seq, TI_rng1, TI_rng2, TT_nm, TT_tp, TT_sub, TTs_nil, TTs_cons, TB_cmp, TB_isi, TB_not, TB_and, TB_or, TB_ite, TC_nil, TC_cons, Res.T_ok, List.getElem?_cons_succ, List.getElem?_cons_zero, List.set_cons_succ, List.set_cons_zero, Option.some.injEq, exists_eq_left', D.int.injEq, D.str.injEq, D.bl.injEq, D.tup.injEq]
    obtain ⟨w, ew, el⟩ := stm_ix hst h'
    refine ⟨_, ew, le2, _, isIn_strs (h := h') [sLoad, sSwap], ?_⟩
    rw [← el]
    cases hb : isLd d with
    | true =>
      obtain ⟨rr, hrr, er⟩ := stm_reg hst hb h'
      rw [if_pos rfl, if_pos trivial]
      refine ⟨_, er, ?_⟩
      rw [List.length_map]
      refine ⟨by show ws.length < 16777216; omega, trivial, ws ++ [rr], by simp, ?_, by rw [List.length_append]; show _ + 1 ≤ _; omega⟩
      intro w hw
      rcases List.mem_append.mp hw with z | z
      · exact hws w z
      · rw [List.mem_singleton.mp z]; exact hrr
    | false =>
      rw [if_neg (by decide), if_neg (by decide)]
      exact ⟨trivial, ws, rfl, hws, by omega⟩
  · rintro acc h' ⟨rfl, ws, rfl, hws, hwl⟩
    exact ⟨ws, hws, hwl, rfl, rfl⟩
/-- what an end may be about -/
def Able (d : D) : Prop := (∃ w ∈ NAMES, d = .tup [.str sPlace, .str w]) ∨ ∃ a ∈ NAMES, ∃ b ∈ NAMES, d = .tup [.str sReg, .str a, .str b]
def EndT (d : D) : Prop := ∃ k : Nat, k < 10 ∧ ((∃ w ∈ NAMES, d = .tup [.str sPlace, .str w, .int (k : Int)]) ∨ ∃ a ∈ NAMES, ∃ b ∈ NAMES, d = .tup [.str sReg, .str a, .str b, .int (k : Int)])
def ThrT (d : D) : Prop := ∃ w ∈ NAMES, ∃ sts : List D, d = .tup [.str w, .tup sts] ∧ sts.length ≤ 8 ∧ ∀ s ∈ sts, Stm s
theorem able_plain {d : D} (a : Able d) : plain d = true := by
  rcases a with ⟨w, _, rfl⟩ | ⟨a, _, b, _, rfl⟩ <;> rfl
theorem end_plain {d : D} (a : EndT d) : plain d = true := by
  obtain ⟨k, _, ⟨w, _, rfl⟩ | ⟨a, _, b, _, rfl⟩⟩ := a <;> rfl
theorem ends_T {p q c : Nat} {h : Hs} {ps : List S} {ths : List D} {m : Nat} (P : Pen p q c h) (hc : c + 2 * m < 1000000000000) (hps : Nms ps) (hp1 : ps.length ≤ 1000) (hth : ∀ t ∈ ths, ThrT t) (htl : ths.length ≤ 1000) (hm : m ≤ 1000) :
    (run (Pg G) (n + 3) 14 [.ref p, .tup (ps.map .str), .tup ths, .int (m : Int)] h).T fun d h' => Pen p q (c + 2 * m) h' ∧ Up p h h' ∧ ∃ es : List D, d = .tup es ∧ es.length ≤ m ∧ ∀ e ∈ es, EndT e := by
  refine run_T rfl rfl ?_
  show (exSs _ f14 [some (.ref p), some (.tup (ps.map .str)), some (.tup ths), some (.int (m : Int)), none, none, none, none, none, none] h).T _ _ _ _
  unfold f14
  have hpl := P.lt
  rw [T_cons, T_asg]
  refine T_lcV (fun i acc h' => h' = h ∧ acc.length = i ∧ ∀ a ∈ acc, Able a) (ps.map .str) ?_ ?_ ?_
  · simp -implicitDefEqProofs only [TE_c, TE_v, TE_tup, TE_lst, TE_dct, TE_bin, TE_cmp, TE_ite, TE_and, TE_or, TE_not, TE_neg, TE_ix, TE_sl, TO_none, TO_some, TE_call, TE_bi, TE_mt, TE_isi, TEs_nil, TEs_cons, TKV_nil, TKV_cons, TI_seq, TI_rng1, TI_rng2, TT_nm, TT_tp, TT_sub, TTs_nil, TTs_cons, TB_cmp, TB_isi, TB_not, TB_and, TB_or, TB_ite, TC_nil, TC_cons, Res.T_ok, List.getElem?_cons_succ, List.getElem?_cons_zero, List.set_cons_succ, List.set_cons_zero, Option.some.injEq, exists_eq_left', D.int.injEq, D.str.injEq, D.bl.injEq, D.tup.injEq]
    exact ⟨_, rfl, rfl, trivial, rfl, by simp⟩
  · rintro i d acc h' hd ⟨rfl, hal, hab⟩
    obtain ⟨w, hw, rfl⟩ := List.mem_map.mp (List.mem_of_getElem? hd)
    have hi := (List.getElem?_eq_some_iff.mp hd).1
    rw [List.length_map] at hi
    show (evT _ (.nm 7) (.str w) [some (.ref p), some (.tup (ps.map .str)), some (.tup ths), some (.int (m : Int)), none, none, none, none, none, none] h').T _
    simp -implicitDefEqProofs only [TE_c, TE_v, TE_tup, TE_lst, TE_dct, TE_bin, TE_cmp, TE_ite, TE_and, TE_or, TE_not, TE_neg, TE_ix, TE_sl, TO_none, TO_some, TE_call, TE_bi, TE_mt, TE_isi, TEs_nil, TEs_cons, TKV_nil, TKV_cons, TI_seq, TI_rng1, TI_rng2, TT_nm, TT_tp, TT_sub, TTs_nil, TTs_cons, TB_cmp, TB_isi, TB_not, TB_and, TB_or, TB_ite, TC_nil, TC_cons, Res.T_ok, List.getElem?_cons_succ, List.getElem?_cons_zero, List.set_cons_succ, List.set_cons_zero, Option.some.injEq, exists_eq_left', D.int.injEq, D.str.injEq, D.bl.injEq, D.tup.injEq]
    refine ⟨le2, by show acc.length < 16777216; omega, trivial, by simp [hal], ?_⟩
    intro a ha
    rcases List.mem_append.mp ha with z | z
    · exact hab a z
    · rw [List.mem_singleton.mp z]; exact .inl ⟨w, hps w hw, rfl⟩
  rintro acc h' ⟨rfl, hal, hab⟩
  rw [List.length_map] at hal
  simp -implicitDefEqProofs only [TE_c, TE_v, TE_tup, TE_lst, TE_dct, TE_bin, TE_cmp, TE_ite, TE_and, TE_or, TE_not, TE_neg, TE_ix, TE_sl, TO_none, TO_some, TE_call, TE_bi, TE_mt, TE_isi, TEs_nil, TEs_cons, TKV_nil, TKV_cons, TI_seq, TI_rng1, TI_rng2, TT_nm, TT_tp, TT_sub, TTs_nil, TTs_cons, TB_cmp, TB_isi, TB_not, TB_and, TB_or, TB_ite, TC_nil, TC_cons, Res.T_ok, List.getElem?_cons_succ, List.getElem?_cons_zero, List.set_cons_succ, List.set_cons_zero, Option.some.injEq, exists_eq_left', D.int.injEq, D.str.injEq, D.bl.injEq, D.tup.injEq]
  rw [T_cons]
  generalize hσ : [some (D.ref p), some (D.tup (List.map D.str ps)), some (D.tup ths), some (D.int ↑m), some (D.ref (List.length h')), none, none, none, none, none] = σ0
  refine T_for (fun i σ h1 => Pen p q c h1 ∧ Up p h' h1 ∧ ∃ (s5 s6 s7 s8 s9 : Option D) (ka : Nat) (as : List D), σ = [some (.ref p), some (.tup (ps.map .str)), some (.tup ths), some (.int (m : Int)), some (.ref ka), s5, s6, s7, s8, s9] ∧ ka ≠ p ∧ h1[ka]? = some (.lst as) ∧ (∀ a ∈ as, Able a) ∧ as.length ≤ 1000 + 8 * i) ths ?_ ?_ ?_
  · subst hσ
    simp -implicitDefEqProofs only [TE_c, TE_v, TE_tup, TE_lst, TE_dct, TE_bin, TE_cmp, TE_ite, TE_and, TE_or, TE_not, TE_neg, TE_ix, TE_sl, TO_none, TO_some, TE_call, TE_bi, TE_mt, TE_isi, TEs_nil, TEs_cons, TKV_nil, TKV_cons, TI_seq, TI_rng1, TI_rng2, TT_nm, TT_tp, TT_sub, TTs_nil, TTs_cons, TB_cmp, TB_isi, TB_not, TB_and, TB_or, TB_ite, TC_nil, TC_cons, Res.T_ok, List.getElem?_cons_succ, List.getElem?_cons_zero, List.set_cons_succ, List.set_cons_zero, Option.some.injEq, exists_eq_left', D.int.injEq, D.str.injEq, D.bl.injEq, D.tup.injEq]
    exact ⟨_, rfl, rfl, P.app, Up.app, _, _, _, _, _, _, acc, rfl, by omega, List.getElem?_concat_length .., hab, by omega⟩
  · rintro i d σ h1 hd ⟨P1, U1, s5, s6, s7, s8, s9, ka, as, rfl, hkp, hka, has, hasl⟩
    obtain ⟨nm, hnm, sts, rfl, hsl, hst⟩ := hth d (List.mem_of_getElem? hd)
    have hi := (List.getElem?_eq_some_iff.mp hd).1
    simp -implicitDefEqProofs only [TE_c, TE_v, TE_tup, TE_lst, TE_dct, TE_bin, TE_cmp, TE_ite, TE_and, TE_or, TE_not, TE_neg, TE_ix, TE_sl, TO_none, TO_some, TE_call, TE_bi, TE_mt, TE_isi, TEs_nil, TEs_cons, TKV_nil, TKV_cons, TI_seq, TI_rng1, TI_rng2, TT_nm, TT_tp, TT_sub, TTs_nil, TTs_cons, TB_cmp, TB_isi, TB_not, TB_and, TB_or, TB_ite, TC_nil, TC_cons, Res.T_ok, List.getElem?_cons_succ, List.getElem?_cons_zero, List.set_cons_succ, List.set_cons_zero, Option.some.injEq, exists_eq_left', D.int.injEq, D.str.injEq, D.bl.injEq, D.tup.injEq]
    refine ⟨rfl, ?_⟩
    rw [T_cons, T_asg]
    simp -implicitDefEqProofs only [TE_c, TE_v, TE_tup, TE_lst, TE_dct, TE_bin, TE_cmp, TE_ite, TE_and, TE_or, TE_not, TE_neg, TE_ix, TE_sl, TO_none, TO_some, TE_call, TE_bi, TE_mt, TE_isi, TEs_nil, TEs_cons, TKV_nil, TKV_cons, TI_seq, TI_rng1, TI_rng2, TT_nm, TT_tp, TT_sub, TTs_nil, TTs_cons, TB_cmp, TB_isi, TB_not, TB_and, TB_or, TB_ite, TC_nil, TC_cons, Res.T_ok, List.getElem?_cons_succ, List.getElem?_cons_zero, List.set_cons_succ, List.set_cons_zero, Option.some.injEq, exists_eq_left', D.int.injEq, D.str.injEq, D.bl.injEq, D.tup.injEq]
    have hkl := (List.getElem?_eq_some_iff.mp hka).1
    have hp1' := P1.lt
    obtain ⟨_, _, er, ws, hws, hwl, rfl, rfl⟩ := (registers_T (G := G) (n := n + 1) sts hst (by omega) h1).ex
    refine T_lcD (h := h1) (fun i acc h2 => h2 = h1 ++ [.lst (ws.map .str)] ∧ acc.length = i ∧ ∀ a ∈ acc, Able a) h1.length (ws.map .str) ?_ ?_ ?_ ?_
    · simp -implicitDefEqProofs only [TE_c, TE_v, TE_tup, TE_lst, TE_dct, TE_bin, TE_cmp, TE_ite, TE_and, TE_or, TE_not, TE_neg, TE_ix, TE_sl, TO_none, TO_some, TE_call, TE_bi, TE_mt, TE_isi, TEs_nil, TEs_cons, TKV_nil, TKV_cons, TI_seq, TI_rng1, TI_rng2, TT_nm, TT_tp, TT_sub, TTs_nil, TTs_cons, TB_cmp, TB_isi, TB_not, TB_and, TB_or, TB_ite, TC_nil, TC_cons, Res.T_ok, List.getElem?_cons_succ, List.getElem?_cons_zero, List.set_cons_succ, List.set_cons_zero, Option.some.injEq, exists_eq_left', D.int.injEq, D.str.injEq, D.bl.injEq, D.tup.injEq]
      rw [er]
      simp only [Res.T_ok]
      refine ⟨.dyn h1.length, ?_, rfl, ?_, trivial, rfl, by simp⟩
      · simp only [srcOf, seqOf, List.getElem?_concat_length]
      · simp only [seqOf, List.getElem?_concat_length]
    · rintro i acc h ⟨rfl, _⟩
      simp only [seqOf, List.getElem?_concat_length]
    · rintro i d acc h2 hd ⟨rfl, hal, hab⟩
      obtain ⟨w, hw, rfl⟩ := List.mem_map.mp (List.mem_of_getElem? hd)
      have hi := (List.getElem?_eq_some_iff.mp hd).1
      rw [List.length_map] at hi
      show (evT _ (.nm 8) (.str w) [some (.ref p), some (.tup (ps.map .str)), some (.tup ths), some (.int (m : Int)), some (.ref ka), some (.str nm), some (.tup sts), s7, none, s9] _).T _
      simp -implicitDefEqProofs only [TE_c, TE_v, TE_tup, TE_lst, TE_dct, TE_bin, TE_cmp, TE_ite, TE_and, TE_or, TE_not, TE_neg, TE_ix, TE_sl, TO_none, TO_some, TE_call, TE_bi, TE_mt, TE_isi, TEs_nil, TEs_cons, TKV_nil, TKV_cons, TI_seq, TI_rng1, TI_rng2, TT_nm, TT_tp, TT_sub, TTs_nil, TTs_cons, TB_cmp, TB_isi, TB_not, TB_and, TB_or, TB_ite, TC_nil, TC_cons, Res.T_ok, List.getElem?_cons_succ, List.getElem?_cons_zero, List.set_cons_succ, List.set_cons_zero, Option.some.injEq, exists_eq_left', D.int.injEq, D.str.injEq, D.bl.injEq, D.tup.injEq]
      refine ⟨le3, by show acc.length < 16777216; omega, trivial, by simp [hal], ?_⟩
      intro a ha
      rcases List.mem_append.mp ha with z | z
      · exact hab a z
      · rw [List.mem_singleton.mp z]; exact .inr ⟨nm, hnm, w, hws w hw, rfl⟩
    · rintro acc h2 ⟨rfl, hal, hab⟩
      rw [List.length_map] at hal
      simp only [binop]
      have hka2 : (h1 ++ [MO.lst (ws.map D.str)] ++ [MO.lst acc])[ka]? = some (.lst as) := by
        rw [List.append_assoc, List.getElem?_append_left hkl]; exact hka
      refine add_ref hka2 (List.getElem?_concat_length ..) (by show _ ≤ 16777216; omega) ?_
      rw [T_nil]
      refine ⟨P1.app.app.app, ((U1.trans Up.app).trans Up.app).trans Up.app, _, _, _, _, _, _, as ++ acc, rfl, ?_, List.getElem?_concat_length .., ?_, ?_⟩
      · simp only [List.length_append, List.length_cons, List.length_nil]; omega
      · intro a ha
        rcases List.mem_append.mp ha with z | z
        · exact has a z
        · exact hab a z
      · rw [List.length_append]; omega
  · rintro σ h1 ⟨P1, U1, s5, s6, s7, s8, s9, ka, as, rfl, hkp, hka, has, hasl⟩
    have hkl := (List.getElem?_eq_some_iff.mp hka).1
    rw [T_cons, T_ret]
    simp -implicitDefEqProofs only [TE_c, TE_v, TE_tup, TE_lst, TE_dct, TE_bin, TE_cmp, TE_ite, TE_and, TE_or, TE_not, TE_neg, TE_ix, TE_sl, TO_none, TO_some, TE_call, TE_bi, TE_mt, TE_isi, TEs_nil, TEs_cons, TKV_nil, TKV_cons, TI_seq, TI_rng1, TI_rng2, TT_nm, TT_tp, TT_sub, TTs_nil, TTs_cons, TB_cmp, TB_isi, TB_not, TB_and, TB_or, TB_ite, TC_nil, TC_cons, Res.T_ok, List.getElem?_cons_succ, List.getElem?_cons_zero, List.set_cons_succ, List.set_cons_zero, Option.some.injEq, exists_eq_left', D.int.injEq, D.str.injEq, D.bl.injEq, D.tup.injEq]
    refine ⟨le0, ?_⟩
    have hka2 : (h1 ++ [MO.lst []])[ka]? = some (.lst as) := by
      rw [List.getElem?_append_left hkl]; exact hka
    refine ⟨_, ne_nilG hka2 (plains_of _ fun a ha => able_plain (has a ha)) (List.getElem?_concat_length ..), ?_⟩
    cases hae : as.isEmpty with
    | true =>
      rw [Bool.not_true, if_neg (by decide)]
      exact ⟨le0, P1.app.mono (by omega), U1.trans Up.app, by simp, by simp⟩
    | false =>
      rw [Bool.not_false, if_pos rfl]
      have hne : 0 < as.length := by
        cases as with
        | nil => cases hae
        | cons _ _ => simp
      generalize hσ2 : [some (D.ref p), some (D.tup (List.map D.str ps)), some (D.tup ths), some (D.int ↑m), some (D.ref ka), s5, s6, s7, s8, s9] = σ2
      refine T_lcV (fun i acc h2 => Pen p q (c + 2 * i) h2 ∧ Up p h' h2 ∧ h2[ka]? = some (.lst as) ∧ acc.length = i ∧ ∀ e ∈ acc, EndT e) (rngV 0 (m : Int)) ?_ ?_ ?_
      · subst hσ2
        simp -implicitDefEqProofs only [TE_c, TE_v, TE_tup, TE_lst, TE_dct, TE_bin, TE_cmp, TE_ite, TE_and, TE_or, TE_not, TE_neg, TE_ix, TE_sl, TO_none, TO_some, TE_call, TE_bi, TE_mt, TE_isi, TEs_nil, TEs_cons, TKV_nil, TKV_cons, TI_seq, TI_rng1, TI_rng2, TT_nm, TT_tp, TT_sub, TTs_nil, TTs_cons, TB_cmp, TB_isi, TB_not, TB_and, TB_or, TB_ite, TC_nil, TC_cons, Res.T_ok, List.getElem?_cons_succ, List.getElem?_cons_zero, List.set_cons_succ, List.set_cons_zero, Option.some.injEq, exists_eq_left', D.int.injEq, D.str.injEq, D.bl.injEq, D.tup.injEq]
        exact ⟨_, rangeS_int (by omega), rfl, P1.app, U1.trans Up.app, hka2, rfl, by simp⟩
      · rintro i d acc h2 hd ⟨P2, U2, hk2, hal, hab⟩
        obtain ⟨hi, rfl⟩ := rngV_get hd
        subst hσ2
        show (evT _ (.nm 9) (.int (i : Int)) [some (.ref p), some (.tup (ps.map .str)), some (.tup ths), some (.int (m : Int)), some (.ref ka), s5, s6, s7, s8, none] _).T _
        simp -implicitDefEqProofs only [TE_c, TE_v, TE_tup, TE_lst, TE_dct, TE_bin, TE_cmp, TE_ite, TE_and, TE_or, TE_not, TE_neg, TE_ix, TE_sl, TO_none, TO_some, TE_call, TE_bi, TE_mt, TE_isi, TEs_nil, TEs_cons, TKV_nil, TKV_cons, TI_seq, TI_rng1, TI_rng2, TT_nm, TT_tp, TT_sub, TTs_nil, TTs_cons, TB_cmp, TB_isi, TB_not, TB_and, TB_or, TB_ite, TC_nil, TC_cons, Res.T_ok, List.getElem?_cons_succ, List.getElem?_cons_zero, List.set_cons_succ, List.set_cons_zero, Option.some.injEq, exists_eq_left', D.int.injEq, D.str.injEq, D.bl.injEq, D.tup.injEq]
        refine (pickL_T (n := n) P2 (by omega) hk2 hkp hne (by omega)).mono fun d h3 ⟨P3, U3, hd⟩ => ?_
        have hk3 := U3.at hk2 hkp
        have hk3l := (List.getElem?_eq_some_iff.mp hk3).1
        have hp3 := P3.lt
        refine ⟨le6, ?_⟩
        refine (pickL_T (n := n) P3.app (by omega) (List.getElem?_concat_length ..) (by omega) (by decide) (by decide)).mono fun d2 h4 ⟨P4, U4, hd2⟩ => ⟨le1, ?_⟩
        have hd3 : ∃ k : Nat, k < 10 ∧ d2 = .int (k : Int) := by
          simp only [List.mem_cons, List.not_mem_nil, or_false] at hd2
          rcases hd2 with rfl | rfl | rfl | rfl | rfl | rfl
          · exact ⟨0, by decide, rfl⟩
          · exact ⟨1, by decide, rfl⟩
          · exact ⟨1, by decide, rfl⟩
          · exact ⟨2, by decide, rfl⟩
          · exact ⟨3, by decide, rfl⟩
          · exact ⟨9, by decide, rfl⟩
        obtain ⟨k, hk, rfl⟩ := hd3
        have hk4 : h4[ka]? = some (.lst as) := U4.at (by rw [List.getElem?_append_left hk3l]; exact hk3) hkp
        have U5 := ((U2.trans U3).trans Up.app).trans U4
        have fin : ∀ x, EndT x → acc.length < L ∧ Pen p q (c + 2 * (i + 1)) h4 ∧ Up p h' h4 ∧ h4[ka]? = some (.lst as) ∧ (acc ++ [x]).length = i + 1 ∧ ∀ e ∈ acc ++ [x], EndT e := fun x hx => ⟨by show acc.length < 16777216; omega, P4.mono (by omega), U5, hk4, by simp [hal], fun e he => by
          rcases List.mem_append.mp he with z | z
          · exact hab e z
          · rw [List.mem_singleton.mp z]; exact hx⟩
        rcases has d hd with ⟨w, hw, rfl⟩ | ⟨a, ha, b, hb, rfl⟩
        · exact add_tup (a := [D.str sPlace, D.str w]) (b := [D.int (k : Int)]) (by show 3 ≤ 16777216; decide) (fin _ ⟨k, hk, .inl ⟨w, hw, rfl⟩⟩)
        · exact add_tup (a := [D.str sReg, D.str a, D.str b]) (b := [D.int (k : Int)]) (by show 4 ≤ 16777216; decide) (fin _ ⟨k, hk, .inr ⟨a, ha, b, hb, rfl⟩⟩)
      · rintro acc h2 ⟨P2, U2, hk2, hal, hab⟩
        rw [rngV_len] at P2 hal
        simp only [builtin, biTuple, seqOf, List.getElem?_concat_length, Res.T_ok, D.tup.injEq, exists_eq_left']
        exact ⟨P2.app, U2.trans Up.app, by omega, hab⟩
end HD
end

section
set_option linter.all false
set_option maxRecDepth 100000
set_option maxHeartbeats 1000000
/-! MP8: asks, the book. -/
namespace HD
open MI
variable {G : List D → Hs → Res D} {n : Nat}
def MEMS : List S := [[115, 99], [116, 115, 111], [114, 97]]
def AskT (d : D) : Prop := ∃ w ∈ NAMES, ∃ m ∈ MEMS, ∃ es : List D, d = .tup [.str w, .str m, .tup es] ∧ es ≠ [] ∧ es.length ≤ 3 ∧ ∀ e ∈ es, EndT e
def ASKS : List S := [[97], [98], [120], [97, 115, 107, 49], [116], [114]]
def PLS : List S := [[120], [121], [122], [102, 108, 97, 103], [116]]
def THS : List S := [[116], [117], [108, 101, 102, 116], [120], [118, 50]]
theorem asks_names : Nms ASKS := by unfold Nms; decide
theorem pls_names : Nms PLS := by unfold Nms; decide
theorem ths_names : Nms THS := by unfold Nms; decide
theorem mul_tup {x : List D} {k : Nat} {h : Hs} {Q : D → Hs → Prop} (hk : k ≤ 1000) (hx : x.length ≤ 1000) (q : Q (.tup (rep x k)) h) : (mulD (.tup x) (.int (k : Int)) h).T Q := by
  show (if 0 ≤ (k : Int) ∧ (k : Int) ≤ 1000 ∧ x.length ≤ 1000 then Res.ok (D.tup (rep x (k : Int).toNat)) h else Res.stuck).T Q
  rw [if_pos ⟨by omega, by omega, hx⟩, Int.toNat_natCast]
  exact q
theorem asks_T {p q c : Nat} {h : Hs} {ps : List S} {ths : List D} {m : Nat} (P : Pen p q c h) (hc : c + 6 + 8 * m < 1000000000000) (hps : Nms ps) (hp1 : ps.length ≤ 1000) (hth : ∀ t ∈ ths, ThrT t) (htl : ths.length ≤ 1000) (hm : m ≤ 6) :
    (run (Pg G) (n + 4) 15 [.ref p, .tup (ps.map .str), .tup ths, .int (m : Int)] h).T fun d h' => Pen p q (c + 6 + 8 * m) h' ∧ Up p h h' ∧ ∃ es : List D, d = .tup es ∧ es.length ≤ m ∧ ∀ e ∈ es, AskT e := by
  refine run_T rfl rfl ?_
  show (exSs _ f15 [some (.ref p), some (.tup (ps.map .str)), some (.tup ths), some (.int (m : Int)), none, none, none, none] h).T _ _ _ _
  unfold f15
  have hpl := P.lt
  rw [T_cons, T_asg]
  simp -implicitDefEqProofs only [TE_c, TE_v, TE_tup, TE_lst, TE_dct, TE_bin, TE_cmp, TE_ite, TE_and, TE_or, TE_not, TE_neg, TE_ix, TE_sl, TO_none, TO_some, TE_call, TE_bi, TE_mt, TE_isi, TEs_nil, TEs_cons, TKV_nil, TKV_cons, TI_seq, TI_rng1, TI_rng2, TT_nm, TT_tp, TT_sub, TTs_nil, TTs_cons, TB_cmp, TB_isi, TB_not, TB_and, TB_or, TB_ite, TC_nil, TC_cons, Res.T_ok, List.getElem?_cons_succ, List.getElem?_cons_zero, List.set_cons_succ, List.set_cons_zero, Option.some.injEq, exists_eq_left', D.int.injEq, D.str.injEq, D.bl.injEq, D.tup.injEq]
  refine ⟨le6, ?_⟩
  have hr : (h ++ [MO.lst [D.str [97], D.str [98], D.str [120], D.str [97, 115, 107, 49], D.str [116], D.str [114]]])[h.length]? = some (.lst (ASKS.map .str)) := List.getElem?_concat_length ..
  refine (shuffled_T (n := n + 1) (ds := ASKS.map .str) (c := c) P.app (by show c + 6 < _; omega) hr (by show 6 < 1048576; decide)).mono fun d h1 ⟨P1, U1, r, es, e, hr1, hr2, hlen, hmem⟩ => ?_
  subst e
  have U1' := Up.app.trans U1
  obtain ⟨wf, rfl, hwf⟩ := strs_of_mem hmem asks_names
  simp only [List.length_map] at hlen
  have hlen' : wf.length = 6 := hlen
  have hr1' : h.length + 1 ≤ r := by rw [List.length_append] at hr1; exact hr1
  have hrp : r ≠ p := by omega
  refine ⟨le0, le2, rfl, ?_⟩
  rw [T_cons]
  generalize hσ : [some (D.ref p), some (D.tup (List.map D.str ps)), some (D.tup ths), some (D.int ↑m), none, some (D.ref r), some (D.tup []), none] = σ0
  refine T_for (fun i σ h' => Pen p q (c + 6 + 8 * i) h' ∧ Up p h h' ∧ h'[r]? = some (.lst (wf.map .str)) ∧ ∃ (s4 s7 : Option D) (es : List D), σ = [some (.ref p), some (.tup (ps.map .str)), some (.tup ths), some (.int (m : Int)), s4, some (.ref r), some (.tup es), s7] ∧ es.length ≤ i ∧ ∀ e ∈ es, AskT e) (rngV 0 (m : Int)) ?_ ?_ ?_
  · subst hσ
    simp -implicitDefEqProofs only [TE_c, TE_v, TE_tup, TE_lst, TE_dct, TE_bin, TE_cmp, TE_ite, TE_and, TE_or, TE_not, TE_neg, TE_ix, TE_sl, TO_none, TO_some, TE_call, TE_bi, TE_mt, TE_isi, TEs_nil, TEs_cons, TKV_nil, TKV_cons, TI_seq, TI_rng1, TI_rng2, TT_nm, TT_tp, TT_sub, TTs_nil, TTs_cons, TB_cmp, TB_isi, TB_not, TB_and, TB_or, TB_ite, TC_nil, TC_cons, Res.T_ok, List.getElem?_cons_succ, List.getElem?_cons_zero, List.set_cons_succ, List.set_cons_zero, Option.some.injEq, exists_eq_left', D.int.injEq, D.str.injEq, D.bl.injEq, D.tup.injEq]
    exact ⟨_, rangeS_int (by omega), rfl, P1, U1', hr2, _, _, [], rfl, Nat.le_refl _, by simp⟩
  · rintro i d σ h2 hd ⟨P2, U2, hr3, s4, s7, es, rfl, hel, hes⟩
    obtain ⟨hi, rfl⟩ := rngV_get hd
    have hp2 := P2.lt
    simp -implicitDefEqProofs only [TE_c, TE_v, TE_tup, TE_lst, TE_dct, TE_bin, TE_cmp, TE_ite, TE_and, TE_or, TE_not, TE_neg, TE_ix, TE_sl, TO_none, TO_some, TE_call, TE_bi, TE_mt, TE_isi, TEs_nil, TEs_cons, TKV_nil, TKV_cons, TI_seq, TI_rng1, TI_rng2, TT_nm, TT_tp, TT_sub, TTs_nil, TTs_cons, TB_cmp, TB_isi, TB_not, TB_and, TB_or, TB_ite, TC_nil, TC_cons, Res.T_ok, List.getElem?_cons_succ, List.getElem?_cons_zero, List.set_cons_succ, List.set_cons_zero, Option.some.injEq, exists_eq_left', D.int.injEq, D.str.injEq, D.bl.injEq, D.tup.injEq]
    rw [T_cons, T_asg]
    simp -implicitDefEqProofs only [TE_c, TE_v, TE_tup, TE_lst, TE_dct, TE_bin, TE_cmp, TE_ite, TE_and, TE_or, TE_not, TE_neg, TE_ix, TE_sl, TO_none, TO_some, TE_call, TE_bi, TE_mt, TE_isi, TEs_nil, TEs_cons, TKV_nil, TKV_cons, TI_seq, TI_rng1, TI_rng2, TT_nm, TT_tp, TT_sub, TTs_nil, TTs_cons, TB_cmp, TB_isi, TB_not, TB_and, TB_or, TB_ite, TC_nil, TC_cons, Res.T_ok, List.getElem?_cons_succ, List.getElem?_cons_zero, List.set_cons_succ, List.set_cons_zero, Option.some.injEq, exists_eq_left', D.int.injEq, D.str.injEq, D.bl.injEq, D.tup.injEq]
    refine ⟨le4, ?_⟩
    refine (pickL_T (n := n + 1) P2.app (by omega) (List.getElem?_concat_length ..) (by omega) (by decide) (by decide)).mono fun d h3 ⟨P3, U3, hd3⟩ => ?_
    have hk : ∃ k : Nat, k ≤ 3 ∧ d = .int (k : Int) := by
      simp only [List.mem_cons, List.not_mem_nil, or_false] at hd3
      rcases hd3 with rfl | rfl | rfl | rfl
      · exact ⟨1, by decide, rfl⟩
      · exact ⟨2, by decide, rfl⟩
      · exact ⟨2, by decide, rfl⟩
      · exact ⟨3, by decide, rfl⟩
    obtain ⟨k, hk, rfl⟩ := hk
    have U3' := Up.app.trans U3
    refine (ends_T (n := n) P3 (by omega) hps hp1 hth htl (by omega)).mono fun d h4 ⟨P4, U4, ed, e1, e2, e3⟩ => ?_
    subst e1
    have U4' := U3'.trans U4
    have hr4 := U4'.at hr3 hrp
    have hp4 := P4.lt
    rw [T_cons, T_asg]
    simp -implicitDefEqProofs only [TE_c, TE_v, TE_tup, TE_lst, TE_dct, TE_bin, TE_cmp, TE_ite, TE_and, TE_or, TE_not, TE_neg, TE_ix, TE_sl, TO_none, TO_some, TE_call, TE_bi, TE_mt, TE_isi, TEs_nil, TEs_cons, TKV_nil, TKV_cons, TI_seq, TI_rng1, TI_rng2, TT_nm, TT_tp, TT_sub, TTs_nil, TTs_cons, TB_cmp, TB_isi, TB_not, TB_and, TB_or, TB_ite, TC_nil, TC_cons, Res.T_ok, List.getElem?_cons_succ, List.getElem?_cons_zero, List.set_cons_succ, List.set_cons_zero, Option.some.injEq, exists_eq_left', D.int.injEq, D.str.injEq, D.bl.injEq, D.tup.injEq, binop]
    refine ⟨le0, _, ne_tupnil (h := h4) (plains_of _ fun e he => end_plain (e3 e he)), ?_⟩
    cases hee : ed.isEmpty with
    | true =>
      rw [Bool.not_true, if_neg (by decide)]
      refine ⟨le0, add_tup (by show es.length + 0 ≤ 16777216; omega) ?_⟩
      rw [T_nil, List.append_nil]
      exact ⟨P4.mono (by omega), U2.trans U4', hr4, _, _, es, rfl, by omega, hes⟩
    | false =>
      rw [Bool.not_false, if_pos rfl]
      obtain ⟨w, hw, ew⟩ : ∃ w ∈ NAMES, index (.ref r) (.int (i : Int)) h4 = some (.str w) :=
        ⟨wf[i]'(by omega), hwf _ (List.getElem_mem _), by rw [index_ref hr4 (by rw [List.length_map]; omega), List.getElem_map]⟩
      refine ⟨_, ew, le3, ?_⟩
      refine (pickL_T (n := n + 1) P4.app (by omega) (List.getElem?_concat_length ..) (by omega) (by decide) (by decide)).mono fun d h5 ⟨P5, U5, hd5⟩ => ?_
      have hm5 : ∃ m ∈ MEMS, d = .str m := by
        simp only [List.mem_cons, List.not_mem_nil, or_false] at hd5
        rcases hd5 with rfl | rfl | rfl
        · exact ⟨_, by simp [MEMS], rfl⟩
        · exact ⟨_, by simp [MEMS], rfl⟩
        · exact ⟨_, by simp [MEMS], rfl⟩
      obtain ⟨mm, hmm, rfl⟩ := hm5
      refine ⟨le3, le1, add_tup (by show es.length + 1 ≤ 16777216; omega) ?_⟩
      rw [T_nil]
      have U5' := Up.app.trans U5
      refine ⟨P5.mono (by omega), (U2.trans U4').trans U5', U5'.at hr4 hrp, _, _, _, rfl, by rw [List.length_append]; show _ + 1 ≤ _; omega, ?_⟩
      intro e he
      rcases List.mem_append.mp he with z | z
      · exact hes e z
      · rw [List.mem_singleton.mp z]
        exact ⟨w, hw, mm, hmm, ed, rfl, (fun z => by rw [z] at hee; cases hee), by omega, e3⟩
  · rintro σ h2 ⟨P2, U2, hr3, s4, s7, es, rfl, hel, hes⟩
    rw [rngV_len] at P2 hel
    rw [T_cons, T_ret]
    simp -implicitDefEqProofs only [TE_c, TE_v, TE_tup, TE_lst, TE_dct, TE_bin, TE_cmp, TE_ite, TE_and, TE_or, TE_not, TE_neg, TE_ix, TE_sl, TO_none, TO_some, TE_call, TE_bi, TE_mt, TE_isi, TEs_nil, TEs_cons, TKV_nil, TKV_cons, TI_seq, TI_rng1, TI_rng2, TT_nm, TT_tp, TT_sub, TTs_nil, TTs_cons, TB_cmp, TB_isi, TB_not, TB_and, TB_or, TB_ite, TC_nil, TC_cons, Res.T_ok, List.getElem?_cons_succ, List.getElem?_cons_zero, List.set_cons_succ, List.set_cons_zero, Option.some.injEq, exists_eq_left', D.int.injEq, D.str.injEq, D.bl.injEq, D.tup.injEq]
    exact ⟨P2, U2, hel, hes⟩
/-- a tree -/
def BookT (d : D) : Prop := ∃ (ps : List S) (ths as : List D), d = .tup [.tup (ps.map .str), .tup ths, .tup as] ∧ Nms ps ∧ ps.length ≤ 5 ∧ (∀ t ∈ ths, ThrT t) ∧ ths.length ≤ 3 ∧ (∀ a ∈ as, AskT a) ∧ as.length ≤ 3
theorem book_T {p q c : Nat} {h : Hs} (P : Pen p q c h) (hc : c + 1000 < 1000000000000) :
    (run (Pg G) (n + 6) 16 [.ref p] h).T fun d h' => Pen p q (c + 1000) h' ∧ Up p h h' ∧ BookT d := by
  refine run_T rfl rfl ?_
  show (exSs _ f16 [some (.ref p), none, none, none, none, none] h).T _ _ _ _
  unfold f16
  have hpl := P.lt
  rw [T_cons, T_asg]
  simp -implicitDefEqProofs only [TE_c, TE_v, TE_tup, TE_lst, TE_dct, TE_bin, TE_cmp, TE_ite, TE_and, TE_or, TE_not, TE_neg, TE_ix, TE_sl, TO_none, TO_some, TE_call, TE_bi, TE_mt, TE_isi, TEs_nil, TEs_cons, TKV_nil, TKV_cons, TI_seq, TI_rng1, TI_rng2, TT_nm, TT_tp, TT_sub, TTs_nil, TTs_cons, TB_cmp, TB_isi, TB_not, TB_and, TB_or, TB_ite, TC_nil, TC_cons, Res.T_ok, List.getElem?_cons_succ, List.getElem?_cons_zero, List.set_cons_succ, List.set_cons_zero, Option.some.injEq, exists_eq_left', D.int.injEq, D.str.injEq, D.bl.injEq, D.tup.injEq]
  have le5 : ∀ {a b c d e : D}, [a, b, c, d, e].length ≤ L := by intros; show 5 ≤ 16777216; decide
  refine ⟨le5, ?_⟩
  have hr : (h ++ [MO.lst [D.str [120], D.str [121], D.str [122], D.str [102, 108, 97, 103], D.str [116]]])[h.length]? = some (.lst (PLS.map .str)) := List.getElem?_concat_length ..
  refine (shuffled_T (n := n + 3) (ds := PLS.map .str) (c := c) P.app (by show c + 5 < _; omega) hr (by show 5 < 1048576; decide)).mono fun d h1 ⟨P1, U1, r, es, e, hr1, hr2, hlen, hmem⟩ => ?_
  subst e
  have P1 : Pen p q (c + 5) h1 := P1
  have U1' := Up.app.trans U1
  obtain ⟨wf, rfl, hwf⟩ := strs_of_mem hmem pls_names
  simp only [List.length_map] at hlen
  have hlen' : wf.length = 5 := hlen
  have hr1' : h.length + 1 ≤ r := by rw [List.length_append] at hr1; exact hr1
  have hrp : r ≠ p := by omega
  have hp1 := P1.lt
  refine ⟨le5, ?_⟩
  refine (pickL_T (n := n + 3) P1.app (by omega) (List.getElem?_concat_length ..) (by omega) (by decide) (by decide)).mono fun d h2 ⟨P2, U2, hd2⟩ => ?_
  have hk : ∃ k : Int, d = .int k := by
    simp only [List.mem_cons, List.not_mem_nil, or_false] at hd2
    rcases hd2 with rfl | rfl | rfl | rfl | rfl <;> exact ⟨_, rfl⟩
  obtain ⟨k, rfl⟩ := hk
  simp -implicitDefEqProofs only [TE_c, TE_v, TE_tup, TE_lst, TE_dct, TE_bin, TE_cmp, TE_ite, TE_and, TE_or, TE_not, TE_neg, TE_ix, TE_sl, TO_none, TO_some, TE_call, TE_bi, TE_mt, TE_isi, TEs_nil, TEs_cons, TKV_nil, TKV_cons, TI_seq, TI_rng1, TI_rng2, TT_nm, TT_tp, TT_sub, TTs_nil, TTs_cons, TB_cmp, TB_isi, TB_not, TB_and, TB_or, TB_ite, TC_nil, TC_cons, Res.T_ok, List.getElem?_cons_succ, List.getElem?_cons_zero, List.set_cons_succ, List.set_cons_zero, Option.some.injEq, exists_eq_left', D.int.injEq, D.str.injEq, D.bl.injEq, D.tup.injEq]
  have U2' := Up.app.trans U2
  have hr3 := U2'.at hr2 hrp
  refine slice_ref hr3 ?_
  simp only [builtin, biTuple, seqOf, List.getElem?_concat_length, Res.T_ok, cut_strs]
  have hps : Nms (cut wf none (some k)) := fun w hw => hwf w (cut_mem w hw)
  have hpsl : (cut wf none (some k)).length ≤ 5 := Nat.le_trans cut_len (by omega)
  generalize cut wf none (some k) = ps at hps hpsl
  have P3 : Pen p q (c + 5 + 1) (h2 ++ [MO.lst (ps.map .str)]) := P2.app
  have U3 : Up p h (h2 ++ [MO.lst (ps.map .str)]) := (U1'.trans U2').trans Up.app
  generalize h2 ++ [MO.lst (ps.map D.str)] = h3 at P3 U3
  have hp3 := P3.lt
  rw [T_cons, T_asg]
  simp -implicitDefEqProofs only [TE_c, TE_v, TE_tup, TE_lst, TE_dct, TE_bin, TE_cmp, TE_ite, TE_and, TE_or, TE_not, TE_neg, TE_ix, TE_sl, TO_none, TO_some, TE_call, TE_bi, TE_mt, TE_isi, TEs_nil, TEs_cons, TKV_nil, TKV_cons, TI_seq, TI_rng1, TI_rng2, TT_nm, TT_tp, TT_sub, TTs_nil, TTs_cons, TB_cmp, TB_isi, TB_not, TB_and, TB_or, TB_ite, TC_nil, TC_cons, Res.T_ok, List.getElem?_cons_succ, List.getElem?_cons_zero, List.set_cons_succ, List.set_cons_zero, Option.some.injEq, exists_eq_left', D.int.injEq, D.str.injEq, D.bl.injEq, D.tup.injEq]
  refine ⟨le5, ?_⟩
  have hrb : (h3 ++ [MO.lst [D.str [116], D.str [117], D.str [108, 101, 102, 116], D.str [120], D.str [118, 50]]])[h3.length]? = some (.lst (THS.map .str)) := List.getElem?_concat_length ..
  refine (shuffled_T (n := n + 3) (ds := THS.map .str) (c := c + 5 + 1) P3.app (by show c + 5 + 1 + 5 < _; omega) hrb (by show 5 < 1048576; decide)).mono fun d h4 ⟨P4, U4, r4, es4, e, hr14, hr24, hlen4, hmem4⟩ => ?_
  subst e
  have P4 : Pen p q (c + 11) h4 := P4
  have U4' := Up.app.trans U4
  obtain ⟨wt, rfl, hwt⟩ := strs_of_mem hmem4 ths_names
  simp only [List.length_map] at hlen4
  have hlen4' : wt.length = 5 := hlen4
  have hr14' : h3.length + 1 ≤ r4 := by rw [List.length_append] at hr14; exact hr14
  have hrp4 : r4 ≠ p := by omega
  refine ⟨le0, le2, rfl, ?_⟩
  rw [T_cons]
  have hp4 := P4.lt
  generalize hσ : [some (D.ref p), some (D.tup (List.map D.str ps)), none, some (D.ref r4), some (D.tup []), none] = σ0
  -- the number of threads
  obtain ⟨dm, h5, em, P5, U5, hd5⟩ := (pickL_T (G := G) (n := n + 3) (ds := [.int 0, .int 1, .int 2, .int 2, .int 3]) (k := h4.length) (P4.app (g := [MO.lst [.int 0, .int 1, .int 2, .int 2, .int 3]])) (by omega) (List.getElem?_concat_length ..) (by omega) (by decide) (by decide)).ex
  have hk5 : ∃ k : Nat, k ≤ 3 ∧ dm = .int (k : Int) := by
    simp only [List.mem_cons, List.not_mem_nil, or_false] at hd5
    rcases hd5 with rfl | rfl | rfl | rfl | rfl
    · exact ⟨0, by decide, rfl⟩
    · exact ⟨1, by decide, rfl⟩
    · exact ⟨2, by decide, rfl⟩
    · exact ⟨2, by decide, rfl⟩
    · exact ⟨3, by decide, rfl⟩
  obtain ⟨m, hm, rfl⟩ := hk5
  have U5' := Up.app.trans U5
  have hr54 := U5'.at hr24 hrp4
  refine T_for (fun i σ h' => Pen p q (c + 12 + 100 * i) h' ∧ Up p h h' ∧ h'[r4]? = some (.lst (wt.map .str)) ∧ ∃ (s2 s5 : Option D) (ths : List D), σ = [some (.ref p), some (.tup (ps.map .str)), s2, some (.ref r4), some (.tup ths), s5] ∧ ths.length ≤ i ∧ ∀ t ∈ ths, ThrT t) (rngV 0 (m : Int)) ?_ ?_ ?_
  · subst hσ
    simp -implicitDefEqProofs only [TE_c, TE_v, TE_tup, TE_lst, TE_dct, TE_bin, TE_cmp, TE_ite, TE_and, TE_or, TE_not, TE_neg, TE_ix, TE_sl, TO_none, TO_some, TE_call, TE_bi, TE_mt, TE_isi, TEs_nil, TEs_cons, TKV_nil, TKV_cons, TI_seq, TI_rng1, TI_rng2, TT_nm, TT_tp, TT_sub, TTs_nil, TTs_cons, TB_cmp, TB_isi, TB_not, TB_and, TB_or, TB_ite, TC_nil, TC_cons, Res.T_ok, List.getElem?_cons_succ, List.getElem?_cons_zero, List.set_cons_succ, List.set_cons_zero, Option.some.injEq, exists_eq_left', D.int.injEq, D.str.injEq, D.bl.injEq, D.tup.injEq]
    refine ⟨le5, ?_⟩
    rw [em]
    exact ⟨_, rangeS_int (by omega), rfl, P5, (U3.trans U4').trans U5', hr54, _, _, [], rfl, Nat.le_refl _, by simp⟩
  · rintro i d σ h6 hd ⟨P6, U6, hr6, s2, s5, ths, rfl, hel, hes⟩
    obtain ⟨hi, rfl⟩ := rngV_get hd
    have hp6 := P6.lt
    simp -implicitDefEqProofs only [TE_c, TE_v, TE_tup, TE_lst, TE_dct, TE_bin, TE_cmp, TE_ite, TE_and, TE_or, TE_not, TE_neg, TE_ix, TE_sl, TO_none, TO_some, TE_call, TE_bi, TE_mt, TE_isi, TEs_nil, TEs_cons, TKV_nil, TKV_cons, TI_seq, TI_rng1, TI_rng2, TT_nm, TT_tp, TT_sub, TTs_nil, TTs_cons, TB_cmp, TB_isi, TB_not, TB_and, TB_or, TB_ite, TC_nil, TC_cons, Res.T_ok, List.getElem?_cons_succ, List.getElem?_cons_zero, List.set_cons_succ, List.set_cons_zero, Option.some.injEq, exists_eq_left', D.int.injEq, D.str.injEq, D.bl.injEq, D.tup.injEq]
    rw [T_cons, T_asg]
    simp -implicitDefEqProofs only [TE_c, TE_v, TE_tup, TE_lst, TE_dct, TE_bin, TE_cmp, TE_ite, TE_and, TE_or, TE_not, TE_neg, TE_ix, TE_sl, TO_none, TO_some, TE_call, TE_bi, TE_mt, TE_isi, TEs_nil, TEs_cons, TKV_nil, TKV_cons, TI_seq, TI_rng1, TI_rng2, TT_nm, TT_tp, TT_sub, TTs_nil, TTs_cons, TB_cmp, TB_isi, TB_not, TB_and, TB_or, TB_ite, TC_nil, TC_cons, Res.T_ok, List.getElem?_cons_succ, List.getElem?_cons_zero, List.set_cons_succ, List.set_cons_zero, Option.some.injEq, exists_eq_left', D.int.injEq, D.str.injEq, D.bl.injEq, D.tup.injEq]
    refine ⟨le6, ?_⟩
    refine (pickL_T (n := n + 3) P6.app (by omega) (List.getElem?_concat_length ..) (by omega) (by decide) (by decide)).mono fun d h7 ⟨P7, U7, hd7⟩ => ?_
    have hk7 : ∃ k : Nat, k ≤ 8 ∧ d = .int (k : Int) := by
      simp only [List.mem_cons, List.not_mem_nil, or_false] at hd7
      rcases hd7 with rfl | rfl | rfl | rfl | rfl | rfl
      · exact ⟨0, by decide, rfl⟩
      · exact ⟨1, by decide, rfl⟩
      · exact ⟨2, by decide, rfl⟩
      · exact ⟨3, by decide, rfl⟩
      · exact ⟨4, by decide, rfl⟩
      · exact ⟨8, by decide, rfl⟩
    obtain ⟨k, hk, rfl⟩ := hk7
    have U7' := Up.app.trans U7
    have hr7 := U7'.at hr6 hrp4
    rw [T_cons, T_asg]
    simp -implicitDefEqProofs only [TE_c, TE_v, TE_tup, TE_lst, TE_dct, TE_bin, TE_cmp, TE_ite, TE_and, TE_or, TE_not, TE_neg, TE_ix, TE_sl, TO_none, TO_some, TE_call, TE_bi, TE_mt, TE_isi, TEs_nil, TEs_cons, TKV_nil, TKV_cons, TI_seq, TI_rng1, TI_rng2, TT_nm, TT_tp, TT_sub, TTs_nil, TTs_cons, TB_cmp, TB_isi, TB_not, TB_and, TB_or, TB_ite, TC_nil, TC_cons, Res.T_ok, List.getElem?_cons_succ, List.getElem?_cons_zero, List.set_cons_succ, List.set_cons_zero, Option.some.injEq, exists_eq_left', D.int.injEq, D.str.injEq, D.bl.injEq, D.tup.injEq, binop]
    obtain ⟨w, hw, ew⟩ : ∃ w ∈ NAMES, index (.ref r4) (.int (i : Int)) h7 = some (.str w) :=
      ⟨wt[i]'(by omega), hwt _ (List.getElem_mem _), by rw [index_ref hr7 (by rw [List.length_map]; omega), List.getElem_map]⟩
    refine ⟨_, ew, le0, _, ne_tupnil (h := h7) (plains_strs ps), ?_⟩
    have U67 := U6.trans U7'
    have fin : ∀ (sts : List D) (h8 : Hs), sts.length ≤ 8 → (∀ s ∈ sts, Stm s) → Pen p q (c + 12 + 100 * (i + 1)) h8 → Up p h7 h8 → (addD (.tup ths) (.tup [.tup [.str w, .tup sts]]) h8).T fun d h9 => (exSs ⟨run (Pg G) (n + 5), itω⟩ .nil [some (.ref p), some (.tup (ps.map .str)), some (.int (i : Int)), some (.ref r4), some d, some (.int (k : Int))] h9).T
        (fun σ h' => Pen p q (c + 12 + 100 * (i + 1)) h' ∧ Up p h h' ∧ h'[r4]? = some (.lst (wt.map .str)) ∧ ∃ (s2 s5 : Option D) (ths : List D), σ = [some (.ref p), some (.tup (ps.map .str)), s2, some (.ref r4), some (.tup ths), s5] ∧ ths.length ≤ i + 1 ∧ ∀ t ∈ ths, ThrT t) (fun d h' => Pen p q (c + 1000) h' ∧ Up p h h' ∧ BookT d)
          (fun σ h' => (exSs ⟨run (Pg G) (n + 5), itω⟩ (.cons (.ret (.tup (.cons (.v 1) (.cons (.v 4) (.cons (.call 15 (.cons (.v 0) (.cons (.v 1) (.cons (.v 4) (.cons (.call 6 (.cons (.v 0) (.cons (.c (.int (4))) .nil))) .nil))))) .nil))))) .nil) σ h').T (fun _ h_1 => Pen p q (c + 1000) h_1 ∧ Up p h h_1 ∧ BookT D.non) (fun d h' => Pen p q (c + 1000) h' ∧ Up p h h' ∧ BookT d) No No)
          (fun σ h' => Pen p q (c + 12 + 100 * (i + 1)) h' ∧ Up p h h' ∧ h'[r4]? = some (.lst (wt.map .str)) ∧ ∃ (s2 s5 : Option D) (ths : List D), σ = [some (.ref p), some (.tup (ps.map .str)), s2, some (.ref r4), some (.tup ths), s5] ∧ ths.length ≤ i + 1 ∧ ∀ t ∈ ths, ThrT t) := by
      intro sts h8 hsl hst P8 U8
      refine add_tup (by show ths.length + 1 ≤ 16777216; omega) ?_
      rw [T_nil]
      refine ⟨P8, U67.trans U8, U8.at hr7 hrp4, _, _, _, rfl, by rw [List.length_append]; show _ + 1 ≤ _; omega, ?_⟩
      intro t ht
      rcases List.mem_append.mp ht with z | z
      · exact hes t z
      · rw [List.mem_singleton.mp z]; exact ⟨w, hw, sts, rfl, hsl, hst⟩
    rw [show (List.map D.str ps).isEmpty = ps.isEmpty by cases ps <;> rfl]
    cases hpe : ps.isEmpty with
    | true =>
      rw [Bool.not_true, if_neg (by decide)]
      refine ⟨le1, le1, ?_⟩
      refine mul_tup (by omega) (by show 1 ≤ 1000; decide) ?_
      refine ⟨le2, le1, fin _ h7 ?_ ?_ (P7.mono (by omega)) Up.refl⟩
      · unfold rep; simp; omega
      · intro s hs
        unfold rep at hs
        simp only [List.mem_flatten, List.mem_replicate] at hs
        obtain ⟨l, ⟨_, rfl⟩, hs⟩ := hs
        rw [List.mem_singleton.mp hs]
        exact .fence
    | false =>
      rw [Bool.not_false, if_pos rfl]
      refine (thread_T (n := n) P7 (by omega) hps (fun z => by rw [z] at hpe; cases hpe) (by omega) (m := k) (by omega)).mono fun d h8 ⟨P8, U8, sts, e, hsl, hst⟩ => ?_
      subst e
      exact ⟨le2, le1, fin sts h8 (by omega) hst (P8.mono (by omega)) U8⟩
  · rintro σ h6 ⟨P6, U6, hr6, s2, s5, ths, rfl, hel, hes⟩
    rw [rngV_len] at P6 hel
    rw [T_cons, T_ret]
    simp -implicitDefEqProofs only [TE_c, TE_v, TE_tup, TE_lst, TE_dct, TE_bin, TE_cmp, TE_ite, TE_and, TE_or, TE_not, TE_neg, TE_ix, TE_sl, TO_none, TO_some, TE_call, TE_bi, TE_mt, TE_isi, TEs_nil, TEs_cons, TKV_nil, TKV_cons, TI_seq, TI_rng1, TI_rng2, TT_nm, TT_tp, TT_sub, TTs_nil, TTs_cons, TB_cmp, TB_isi, TB_not, TB_and, TB_or, TB_ite, TC_nil, TC_cons, Res.T_ok, List.getElem?_cons_succ, List.getElem?_cons_zero, List.set_cons_succ, List.set_cons_zero, Option.some.injEq, exists_eq_left', D.int.injEq, D.str.injEq, D.bl.injEq, D.tup.injEq]
    refine (draw_T (n := n + 4) P6 (by omega) 4 (by decide) (by decide)).mono fun d h7 ⟨P7, U7, j, j0, j1, e⟩ => ?_
    subst e
    obtain ⟨jn, rfl⟩ : ∃ jn : Nat, j = (jn : Int) := ⟨j.toNat, by omega⟩
    refine (asks_T (n := n + 1) (m := jn) P7 (by omega) hps (by omega) hes (by omega) (by omega)).mono fun d h8 ⟨P8, U8, as, e, hal, has⟩ => ?_
    subst e
    exact ⟨le3, P8.mono (by omega), (U6.trans U7).trans U8, ps, ths, as, rfl, hps, hpsl, hes, by omega, has, by omega⟩
end HD
end

section
set_option linter.all false
set_option maxRecDepth 100000
set_option maxHeartbeats 1000000
/-! MP9: the pen made. -/
namespace HD
open MI
variable {G : List D → Hs → Res D} {n : Nat}
theorem pen_T (ns : List Int) (h : Hs) : (run (Pg G) (n + 1) 5 [.lst (ns.map .int)] h).T fun d h' => ∃ p q, d = .ref p ∧ Pen p q 0 h' := by
  refine run_T rfl rfl ?_
  show (exSs _ f5 [some (.lst (ns.map .int)), none, none] h).T _ _ _ _
  unfold f5
  rw [T_cons, T_asg]
  simp -implicitDefEqProofs only [TE_c, TE_v, TE_tup, TE_lst, TE_dct, TE_bin, TE_cmp, TE_ite, TE_and, TE_or, TE_not, TE_neg, TE_ix, TE_sl, TO_none, TO_some, TE_call, TE_bi, TE_mt, TE_isi, TEs_nil, TEs_cons, TKV_nil, TKV_cons, TI_seq, TI_rng1, TI_rng2, TT_nm, TT_tp, TT_sub, TTs_nil, TTs_cons, TB_cmp, TB_isi, TB_not, TB_and, TB_or, TB_ite, TC_nil, TC_cons, Res.T_ok, List.getElem?_cons_succ, List.getElem?_cons_zero, List.set_cons_succ, List.set_cons_zero, Option.some.injEq, exists_eq_left', D.int.injEq, D.str.injEq, D.bl.injEq, D.tup.injEq]
  rw [T_cons]
  generalize hσ : [some (D.lst (ns.map .int)), some (D.int 0), none] = σ0
  refine T_for (fun i σ h' => h' = h ∧ ∃ (f : Int) (s2 : Option D), 0 ≤ f ∧ f < 2147483563 ∧ σ = [some (.lst (ns.map .int)), some (.int f), s2]) (ns.map .int) ?_ ?_ ?_
  · subst hσ
    simp -implicitDefEqProofs only [TE_c, TE_v, TE_tup, TE_lst, TE_dct, TE_bin, TE_cmp, TE_ite, TE_and, TE_or, TE_not, TE_neg, TE_ix, TE_sl, TO_none, TO_some, TE_call, TE_bi, TE_mt, TE_isi, TEs_nil, TEs_cons, TKV_nil, TKV_cons, TI_seq, TI_rng1, TI_rng2, TT_nm, TT_tp, TT_sub, TTs_nil, TTs_cons, TB_cmp, TB_isi, TB_not, TB_and, TB_or, TB_ite, TC_nil, TC_cons, Res.T_ok, List.getElem?_cons_succ, List.getElem?_cons_zero, List.set_cons_succ, List.set_cons_zero, Option.some.injEq, exists_eq_left', D.int.injEq, D.str.injEq, D.bl.injEq, D.tup.injEq]
    exact ⟨_, rfl, rfl, trivial, 0, none, by decide, by decide, rfl⟩
  · rintro i d σ h' hd ⟨rfl, f, s2, f0, f1, rfl⟩
    obtain ⟨v, hv, rfl⟩ := List.mem_map.mp (List.mem_of_getElem? hd)
    simp -implicitDefEqProofs only [TE_c, TE_v, TE_tup, TE_lst, TE_dct, TE_bin, TE_cmp, TE_ite, TE_and, TE_or, TE_not, TE_neg, TE_ix, TE_sl, TO_none, TO_some, TE_call, TE_bi, TE_mt, TE_isi, TEs_nil, TEs_cons, TKV_nil, TKV_cons, TI_seq, TI_rng1, TI_rng2, TT_nm, TT_tp, TT_sub, TTs_nil, TTs_cons, TB_cmp, TB_isi, TB_not, TB_and, TB_or, TB_ite, TC_nil, TC_cons, Res.T_ok, List.getElem?_cons_succ, List.getElem?_cons_zero, List.set_cons_succ, List.set_cons_zero, Option.some.injEq, exists_eq_left', D.int.injEq, D.str.injEq, D.bl.injEq, D.tup.injEq]
    rw [T_cons, T_asg]
    simp -implicitDefEqProofs only [TE_c, TE_v, TE_tup, TE_lst, TE_dct, TE_bin, TE_cmp, TE_ite, TE_and, TE_or, TE_not, TE_neg, TE_ix, TE_sl, TO_none, TO_some, TE_call, TE_bi, TE_mt, TE_isi, TEs_nil, TEs_cons, TKV_nil, TKV_cons, TI_seq, TI_rng1, TI_rng2, TT_nm, TT_tp, TT_sub, TTs_nil, TTs_cons, TB_cmp, TB_isi, TB_not, TB_and, TB_or, TB_ite, TC_nil, TC_cons, Res.T_ok, List.getElem?_cons_succ, List.getElem?_cons_zero, List.set_cons_succ, List.set_cons_zero, Option.some.injEq, exists_eq_left', D.int.injEq, D.str.injEq, D.bl.injEq, D.tup.injEq, binop]
    refine mul_T (by decide) ?_
    simp only [add_ii, Res.T_ok]
    refine int_T (mod_T (by decide) ?_)
    rw [T_nil]
    exact ⟨rfl, _, _, Int.emod_nonneg _ (by decide), Int.lt_trans (Int.emod_lt_of_pos _ (by decide)) (by decide), rfl⟩
  · rintro σ h' ⟨rfl, f, s2, f0, f1, rfl⟩
    rw [T_cons, T_ret]
    simp -implicitDefEqProofs only [TE_c, TE_v, TE_tup, TE_lst, TE_dct, TE_bin, TE_cmp, TE_ite, TE_and, TE_or, TE_not, TE_neg, TE_ix, TE_sl, TO_none, TO_some, TE_call, TE_bi, TE_mt, TE_isi, TEs_nil, TEs_cons, TKV_nil, TKV_cons, TI_seq, TI_rng1, TI_rng2, TT_nm, TT_tp, TT_sub, TTs_nil, TTs_cons, TB_cmp, TB_isi, TB_not, TB_and, TB_or, TB_ite, TC_nil, TC_cons, Res.T_ok, List.getElem?_cons_succ, List.getElem?_cons_zero, List.set_cons_succ, List.set_cons_zero, Option.some.injEq, exists_eq_left', D.int.injEq, D.str.injEq, D.bl.injEq, D.tup.injEq, builtin, biList, new]
    refine ⟨rfl, rfl, rfl, rfl, rfl, ?_⟩
    refine ⟨_, h'.length, rfl, ns, 0, 0, f, 0, ?_, ?_, Nat.zero_le _, by decide, f0, f1, Nat.le_refl _, ?_⟩
    · simp
    · rw [List.getElem?_append_left (by simp)]; exact List.getElem?_concat_length ..
    · exact List.getElem?_concat_length ..
end HD
end

section
set_option linter.all false
set_option maxRecDepth 100000
set_option maxHeartbeats 1000000
/-! MQ1: the words of a printed text. -/
namespace HD
open MI
/-- words that are no signs -/
def GW : List S := NAMES ++ MEMS ++ [[116, 104, 114, 101, 97, 100], sPlace, [97, 115, 107], [97, 110, 100], sSwap, sFence, [48], [49], [50], [51], [52], [53], [54], [55], [56], [57]]
def GALL : List S := GW ++ ONE.map fun c => [c]
def Sep (c : Nat) : Prop := c = 32 ∨ c = 10 ∨ c ∈ ONE
/-- a text whose words are all known -/
inductive PT : S → Prop
  | nil : PT []
  | sep {c : Nat} {t : S} (hc : Sep c) (p : PT t) : PT (c :: t)
  | word {w t : S} (hw : w ∈ GW) (ht : t = [] ∨ ∃ c r, t = c :: r ∧ Sep c) (p : PT t) : PT (w ++ t)
theorem gw_ok : ∀ w ∈ GW, w ≠ [] ∧ ∀ c ∈ w, c ≠ 32 ∧ c ≠ 10 ∧ c ∉ ONE := by decide
def expT (ss : List Nat) (x : S) : S := x.flatMap fun d => if d ∈ ss then [32, d, 32] else [d]
def nlT (x : S) : S := x.map fun d => if d = 10 then 32 else d
def PW (x : S) : List S := (splitOn 32 (nlT (expT ONE x))).filter fun w => !w.isEmpty
theorem splitOn_word (c : Nat) : ∀ w : S, (∀ d ∈ w, d ≠ c) → splitOn c w = [w]
  | [], _ => rfl
  | d :: w, h => by
    unfold splitOn
    rw [if_neg (h d (by simp)), splitOn_word c w fun x hx => h x (List.mem_cons_of_mem _ hx)]
theorem splitOn_hit (c : Nat) (y : S) : splitOn c (c :: y) = [] :: splitOn c y := by
  rw [splitOn, if_pos rfl]
theorem splitOn_miss (c d : Nat) (y : S) (h : d ≠ c) : splitOn c (d :: y) = match splitOn c y with
    | w :: ws => (d :: w) :: ws
    | [] => [[d]] := by
  rw [splitOn, if_neg h]
  all_goals rfl
theorem splitOn_app (c : Nat) (y : S) : ∀ w : S, (∀ d ∈ w, d ≠ c) → splitOn c (w ++ c :: y) = w :: splitOn c y
  | [], _ => splitOn_hit c y
  | d :: w, h => by
    rw [List.cons_append, splitOn_miss c d _ (h d (by simp)), splitOn_app c y w fun x hx => h x (List.mem_cons_of_mem _ hx)]
theorem E_word (t : S) : ∀ w : S, (∀ c ∈ w, c ≠ 32 ∧ c ≠ 10 ∧ c ∉ ONE) → nlT (expT ONE (w ++ t)) = w ++ nlT (expT ONE t)
  | [], _ => rfl
  | d :: w, h => by
    have hd := h d (by simp)
    have ih := E_word t w fun x hx => h x (List.mem_cons_of_mem _ hx)
    unfold expT nlT at ih ⊢
    rw [List.cons_append, List.flatMap_cons, if_neg hd.2.2, List.map_append, ih, List.map_cons, if_neg hd.2.1]
    rfl
theorem E_one {c : Nat} (hc : c ∈ ONE) (t : S) : nlT (expT ONE (c :: t)) = 32 :: c :: 32 :: nlT (expT ONE t) := by
  have h10 : c ≠ 10 := fun z => by rw [z] at hc; revert hc; decide
  unfold expT nlT
  rw [List.flatMap_cons, if_pos hc, List.map_append]
  simp [h10]
theorem E_sp {c : Nat} (hc : c = 32 ∨ c = 10) (t : S) : nlT (expT ONE (c :: t)) = 32 :: nlT (expT ONE t) := by
  have hn : c ∉ ONE := by rcases hc with rfl | rfl <;> decide
  unfold expT nlT
  rw [List.flatMap_cons, if_neg hn, List.map_append]
  rcases hc with rfl | rfl <;> simp
theorem PW_sp {c : Nat} (hc : c = 32 ∨ c = 10) (t : S) : PW (c :: t) = PW t := by
  unfold PW
  rw [E_sp hc, show (32 :: nlT (expT ONE t)) = [] ++ 32 :: nlT (expT ONE t) from rfl, splitOn_app 32 _ [] (by simp)]
  rfl
theorem PW_one {c : Nat} (hc : c ∈ ONE) (t : S) : PW (c :: t) = [c] :: PW t := by
  have h32 : c ≠ 32 := fun z => by rw [z] at hc; revert hc; decide
  unfold PW
  rw [E_one hc, show (32 :: c :: 32 :: nlT (expT ONE t)) = [] ++ 32 :: ([c] ++ 32 :: nlT (expT ONE t)) from rfl, splitOn_app 32 _ [] (by simp), splitOn_app 32 _ [c] (by simpa using h32)]
  rfl
theorem PW_word {w : S} (hw : w ∈ GW) {t : S} (ht : t = [] ∨ ∃ c r, t = c :: r ∧ Sep c) : PW (w ++ t) = w :: PW t := by
  obtain ⟨h0, h1⟩ := gw_ok w hw
  have hne : (!w.isEmpty) = true := by cases w with
    | nil => exact absurd rfl h0
    | cons _ _ => rfl
  have h32 : ∀ d ∈ w, d ≠ 32 := fun d hd => (h1 d hd).1
  rcases ht with rfl | ⟨c, r, rfl, hc⟩
  · unfold PW
    rw [E_word _ _ h1]
    show (splitOn 32 (w ++ [])).filter _ = w :: []
    rw [List.append_nil, splitOn_word 32 w h32, List.filter_cons_of_pos (p := fun w => !List.isEmpty w) hne]
    rfl
  · have key : ∃ y, nlT (expT ONE (c :: r)) = 32 :: y := by
      rcases hc with hc | hc | hc
      · exact ⟨_, E_sp (.inl hc) r⟩
      · exact ⟨_, E_sp (.inr hc) r⟩
      · exact ⟨_, E_one hc r⟩
    obtain ⟨y, ey⟩ := key
    unfold PW
    rw [E_word _ _ h1, ey, splitOn_app 32 y w h32, show (32 :: y) = [] ++ 32 :: y from rfl, splitOn_app 32 y [] (by simp), List.filter_cons_of_pos (p := fun w => !List.isEmpty w) hne]
    rfl
theorem PT_words {t : S} (p : PT t) : ∀ w ∈ PW t, w ∈ GALL := by
  induction p with
  | nil => intro w hw; exact absurd (show w ∈ ([] : List S) from hw) (by simp)
  | sep hc p ih =>
    intro w hw
    rcases hc with hc | hc | hc
    · rw [PW_sp (.inl hc)] at hw; exact ih w hw
    · rw [PW_sp (.inr hc)] at hw; exact ih w hw
    · rw [PW_one hc] at hw
      rcases List.mem_cons.mp hw with rfl | hw
      · exact List.mem_append_right _ (List.mem_map_of_mem hc)
      · exact ih w hw
  | word hw' ht p ih =>
    intro w hw
    rw [PW_word hw' ht] at hw
    rcases List.mem_cons.mp hw with rfl | hw
    · exact List.mem_append_left _ hw'
    · exact ih w hw
theorem expT_len (ss : List Nat) : ∀ x : S, (expT ss x).length ≤ 3 * x.length
  | [] => by simp [expT]
  | c :: x => by
    have ih := expT_len ss x
    unfold expT at ih ⊢
    rw [List.flatMap_cons, List.length_append, List.length_cons]
    split
    · show 3 + _ ≤ _; omega
    · show 1 + _ ≤ _; omega
theorem PW_len (t : S) : (PW t).length ≤ 3 * t.length + 1 := by
  unfold PW
  have h1 := splitOn_le 32 (nlT (expT ONE t))
  have h2 := expT_len ONE t
  have h3 : (nlT (expT ONE t)).length = (expT ONE t).length := by unfold nlT; rw [List.length_map]
  exact Nat.le_trans (List.length_filter_le _ _) (by omega)
/-! ### how texts are put together -/
def Cl (t : S) : Prop := ∀ r, PT r → PT (t ++ r)
def BdS (r : S) : Prop := r = [] ∨ ∃ c x, r = c :: x ∧ Sep c
def Opn (t : S) : Prop := ∀ r, PT r → BdS r → PT (t ++ r)
theorem cl_nil : Cl [] := fun r p => p
theorem cl_cons {c : Nat} {t : S} (hc : Sep c) (p : Cl t) : Cl (c :: t) := fun r q => .sep hc (p r q)
theorem cl_app {a b : S} (p : Cl a) (q : Cl b) : Cl (a ++ b) := fun r z => by rw [List.append_assoc]; exact p _ (q _ z)
theorem opn_cl {a : S} (p : Cl a) : Opn a := fun r z _ => p r z
theorem opn_w {w : S} (hw : w ∈ GW) : Opn w := fun r z b => .word hw b z
theorem opn_app {a b : S} (p : Cl a) (q : Opn b) : Opn (a ++ b) := fun r z h => by rw [List.append_assoc]; exact p _ (q _ z h)
theorem cl_close {a b : S} {c : Nat} (p : Opn a) (hc : Sep c) (q : Cl b) : Cl (a ++ c :: b) := fun r z => by
  rw [List.append_assoc]
  exact p _ (.sep hc (q r z)) (.inr ⟨c, b ++ r, rfl, hc⟩)
theorem pt_opn {a : S} (p : Opn a) : PT a := by
  have := p [] .nil (.inl rfl)
  rwa [List.append_nil] at this
theorem pt_cl {a : S} (p : Cl a) : PT a := pt_opn (opn_cl p)
theorem sp32 : Sep 32 := .inl rfl
theorem sp10 : Sep 10 := .inr (.inl rfl)
theorem spO {c : Nat} (h : c ∈ ONE) : Sep c := .inr (.inr h)
theorem opn_n {w : S} (hw : w ∈ NAMES) : Opn w := opn_w (List.mem_append_left _ (List.mem_append_left _ hw))
theorem opn_m {w : S} (hw : w ∈ MEMS) : Opn w := opn_w (List.mem_append_left _ (List.mem_append_right _ hw))
theorem len_n : ∀ w ∈ NAMES, w.length ≤ 5 := by decide
theorem len_m : ∀ w ∈ MEMS, w.length ≤ 5 := by decide
theorem len_g : ∀ w ∈ GALL, w.length ≤ 6 := by decide
/-- " = " -/
theorem cl_eq : Cl [32, 61, 32] := cl_cons sp32 (cl_cons (spO (by decide)) (cl_cons sp32 cl_nil))
theorem strI_dig : ∀ k : Nat, k < 10 → strI (k : Int) ∈ GW ∧ (strI (k : Int)).length ≤ 1 := by decide
theorem joinS_cl {sep : S} (hs : Cl sep) : ∀ ts : List S, (∀ t ∈ ts, Cl t) → Cl (joinS sep ts)
  | [], _ => cl_nil
  | [x], h => h x (by simp)
  | x :: y :: r, h => by
    show Cl (x ++ sep ++ joinS sep (y :: r))
    exact cl_app (cl_app (h x (by simp)) hs) (joinS_cl hs (y :: r) fun t ht => h t (List.mem_cons_of_mem _ ht))
theorem joinS_opn {sep : S} {c : Nat} (hc : Sep c) (hs : Cl sep) : ∀ ts : List S, (∀ t ∈ ts, Opn t) → Opn (joinS (c :: sep) ts)
  | [], _ => opn_cl cl_nil
  | [x], h => h x (by simp)
  | x :: y :: r, h => by
    show Opn (x ++ (c :: sep) ++ joinS (c :: sep) (y :: r))
    exact opn_app (cl_close (h x (by simp)) hc hs) (joinS_opn hc hs (y :: r) fun t ht => h t (List.mem_cons_of_mem _ ht))
theorem joinS_len {sep : S} {m : Nat} : ∀ ts : List S, (∀ t ∈ ts, t.length ≤ m) → (joinS sep ts).length ≤ ts.length * (m + sep.length)
  | [], _ => Nat.zero_le _
  | [x], h => by
    have := h x (by simp)
    show x.length ≤ 1 * (m + sep.length)
    omega
  | x :: y :: r, h => by
    have ih := joinS_len (sep := sep) (m := m) (y :: r) fun t ht => h t (List.mem_cons_of_mem _ ht)
    have := h x (by simp)
    show (x ++ sep ++ joinS sep (y :: r)).length ≤ (r.length + 1 + 1) * (m + sep.length)
    rw [List.length_append, List.length_append, Nat.add_one_mul (r.length + 1)]
    rw [List.length_cons] at ih
    omega
theorem sum_len {m : Nat} : ∀ ts : List S, (∀ t ∈ ts, t.length ≤ m) → (ts.map (·.length)).sum ≤ ts.length * m
  | [], _ => by simp
  | x :: r, h => by
    have ih := sum_len (m := m) r fun t ht => h t (List.mem_cons_of_mem _ ht)
    have := h x (by simp)
    rw [List.map_cons, List.sum_cons, List.length_cons, Nat.add_one_mul]
    omega
theorem strsOf_map : ∀ ts : List S, strsOf (ts.map .str) = some ts
  | [] => rfl
  | x :: r => by
    rw [List.map_cons]
    show (strsOf (r.map .str)).map (x :: ·) = _
    rw [strsOf_map r]; rfl
theorem joinIf_T {sep : S} {ts : List S} {m : Nat} {h : Hs} {Q : D → Hs → Prop} (hm : ∀ t ∈ ts, t.length ≤ m) (hl : ts.length * m + ts.length * sep.length ≤ L) (q : Q (.str (joinS sep ts)) h) : (joinIf sep (ts.map .str) h).T Q := by
  unfold joinIf
  rw [strsOf_map]
  have := sum_len ts hm
  show (if (ts.map (·.length)).sum + ts.length * sep.length ≤ L then Res.ok (D.str (joinS sep ts)) h else .stuck).T Q
  rw [if_pos (by omega)]
  exact q
end HD
end

section
set_option linter.all false
set_option maxRecDepth 100000
set_option maxHeartbeats 1000000
/-! MQ2: printing: statements, threads. -/
namespace HD
open MI
variable {G : List D → Hs → Res D} {n : Nat}
theorem TA_str {a b : S} {h : Hs} {Q : D → Hs → Prop} : (addD (.str a) (.str b) h).T Q = (a.length + b.length ≤ L ∧ Q (.str (a ++ b)) h) := by
  show (if a.length + b.length ≤ L then Res.ok (D.str (a ++ b)) h else .stuck).T Q = _
  rw [T_if]; rfl
theorem str_word {w : S} {h : Hs} {Q : D → Hs → Prop} (q : Q (.str w) h) : (builtin .str [.str w] h).T Q := q
theorem str_fig {k : Nat} {h : Hs} {Q : D → Hs → Prop} (hk : k < 10) (q : Q (.str (strI (k : Int))) h) : (builtin .str [.int (k : Int)] h).T Q := by
  show (if (k : Int).natAbs < 10 ^ 100 then Res.ok (D.str (strI (k : Int))) h else .stuck).T Q
  rw [if_pos (Nat.lt_trans (show (k : Int).natAbs < 10 by omega) (by decide))]
  exact q
/-- the number or the name of a value, as a text -/
theorem val_T {v : D} (hv : Val v) {h : Hs} {Q : D → Hs → Prop} (q : ∀ w, Opn w → w.length ≤ 5 → Q (.str w) h) : ∃ d, index v (.int 1) h = some d ∧ (builtin .str [d] h).T Q := by
  rcases hv with ⟨w, hw, rfl⟩ | ⟨k, hk, rfl⟩
  · exact ⟨_, rfl, str_word (q w (opn_n hw) (len_n w hw))⟩
  · have := strI_dig k hk
    exact ⟨_, rfl, str_fig hk (q _ (opn_w this.1) (by omega))⟩
theorem L_le {a : Nat} (h : a ≤ 100000) : a ≤ L := by show a ≤ 16777216; omega
theorem L_lt {a : Nat} (h : a ≤ 100000) : a < L := by show a < 16777216; omega
theorem eq_strs {a b : S} {h : Hs} : cmpop .eq (.str a) (.str b) h = some (a == b) := rfl
theorem stext_T {d : D} (s : Stm d) (h : Hs) : (run (Pg G) (n + 1) 17 [d] h).T fun d h' => h' = h ∧ ∃ t, d = .str t ∧ Cl t ∧ t.length ≤ 60 := by
  refine run_T rfl rfl ?_
  show (exSs _ f17 [some d] h).T _ _ _ _
  unfold f17
  rw [T_cons, T_iff, TB_cmp]
  cases s with
  | fence =>
    simp -implicitDefEqProofs only [TE_c, TE_v, TE_tup, TE_lst, TE_dct, TE_bin, TE_cmp, TE_ite, TE_and, TE_or, TE_not, TE_neg, TE_ix, TE_sl, TO_none, TO_some, TE_call, TE_bi, TE_mt, TE_isi, TEs_nil, TEs_cons, TKV_nil, TKV_cons, TI_seq, TI_rng1, TI_rng2, TT_nm, TT_tp, TT_sub, TTs_nil, TTs_cons, TB_cmp, TB_isi, TB_not, TB_and, TB_or, TB_ite, TC_nil, TC_cons, Res.T_ok, List.getElem?_cons_succ, List.getElem?_cons_zero, List.set_cons_succ, List.set_cons_zero, Option.some.injEq, exists_eq_left', D.int.injEq, D.str.injEq, D.bl.injEq, D.tup.injEq]
    refine ⟨_, rfl, _, eq_strs, ?_⟩
    rw [if_pos (by decide), T_cons, T_ret]
    simp -implicitDefEqProofs only [TE_c, TE_v, TE_tup, TE_lst, TE_dct, TE_bin, TE_cmp, TE_ite, TE_and, TE_or, TE_not, TE_neg, TE_ix, TE_sl, TO_none, TO_some, TE_call, TE_bi, TE_mt, TE_isi, TEs_nil, TEs_cons, TKV_nil, TKV_cons, TI_seq, TI_rng1, TI_rng2, TT_nm, TT_tp, TT_sub, TTs_nil, TTs_cons, TB_cmp, TB_isi, TB_not, TB_and, TB_or, TB_ite, TC_nil, TC_cons, Res.T_ok, List.getElem?_cons_succ, List.getElem?_cons_zero, List.set_cons_succ, List.set_cons_zero, Option.some.injEq, exists_eq_left', D.int.injEq, D.str.injEq, D.bl.injEq, D.tup.injEq]
    exact ⟨trivial, cl_close (c := 59) (b := []) (opn_w (show sFence ∈ GW by decide)) (spO (by decide)) cl_nil, by decide⟩
  | load hr hw =>
    rename_i r w
    have lr := len_n r hr
    have lw := len_n w hw
    simp -implicitDefEqProofs only [TE_c, TE_v, TE_tup, TE_lst, TE_dct, TE_bin, TE_cmp, TE_ite, TE_and, TE_or, TE_not, TE_neg, TE_ix, TE_sl, TO_none, TO_some, TE_call, TE_bi, TE_mt, TE_isi, TEs_nil, TEs_cons, TKV_nil, TKV_cons, TI_seq, TI_rng1, TI_rng2, TT_nm, TT_tp, TT_sub, TTs_nil, TTs_cons, TB_cmp, TB_isi, TB_not, TB_and, TB_or, TB_ite, TC_nil, TC_cons, Res.T_ok, List.getElem?_cons_succ, List.getElem?_cons_zero, List.set_cons_succ, List.set_cons_zero, Option.some.injEq, exists_eq_left', D.int.injEq, D.str.injEq, D.bl.injEq, D.tup.injEq]
    refine ⟨_, rfl, _, eq_strs, ?_⟩
    rw [if_neg (by decide), T_nil, T_cons, T_iff, TB_cmp]
    simp -implicitDefEqProofs only [TE_c, TE_v, TE_tup, TE_lst, TE_dct, TE_bin, TE_cmp, TE_ite, TE_and, TE_or, TE_not, TE_neg, TE_ix, TE_sl, TO_none, TO_some, TE_call, TE_bi, TE_mt, TE_isi, TEs_nil, TEs_cons, TKV_nil, TKV_cons, TI_seq, TI_rng1, TI_rng2, TT_nm, TT_tp, TT_sub, TTs_nil, TTs_cons, TB_cmp, TB_isi, TB_not, TB_and, TB_or, TB_ite, TC_nil, TC_cons, Res.T_ok, List.getElem?_cons_succ, List.getElem?_cons_zero, List.set_cons_succ, List.set_cons_zero, Option.some.injEq, exists_eq_left', D.int.injEq, D.str.injEq, D.bl.injEq, D.tup.injEq]
    refine ⟨_, rfl, _, eq_strs, ?_⟩
    rw [if_pos (by decide), T_cons, T_ret]
    simp -implicitDefEqProofs only [TE_c, TE_v, TE_tup, TE_lst, TE_dct, TE_bin, TE_cmp, TE_ite, TE_and, TE_or, TE_not, TE_neg, TE_ix, TE_sl, TO_none, TO_some, TE_call, TE_bi, TE_mt, TE_isi, TEs_nil, TEs_cons, TKV_nil, TKV_cons, TI_seq, TI_rng1, TI_rng2, TT_nm, TT_tp, TT_sub, TTs_nil, TTs_cons, TB_cmp, TB_isi, TB_not, TB_and, TB_or, TB_ite, TC_nil, TC_cons, Res.T_ok, List.getElem?_cons_succ, List.getElem?_cons_zero, List.set_cons_succ, List.set_cons_zero, Option.some.injEq, exists_eq_left', D.int.injEq, D.str.injEq, D.bl.injEq, D.tup.injEq, binop]
    refine ⟨_, rfl, ?_⟩
    simp only [TA_str, List.length_append, List.length_cons, List.length_nil]
    refine ⟨L_le (by omega), _, rfl, ?_⟩
    simp only [TA_str, List.length_append, List.length_cons, List.length_nil]
    refine ⟨L_le (by omega), L_le (by omega), trivial, _, rfl, ?_, ?_⟩
    · exact cl_close (b := []) (opn_app (cl_close (b := [61, 32]) (opn_n hr) sp32 (cl_cons (spO (by decide)) (cl_cons sp32 cl_nil))) (opn_n hw)) (spO (by decide)) cl_nil
    · simp only [List.length_append, List.length_cons, List.length_nil]; omega
  | store hw hv =>
    rename_i r v
    have lr := len_n r hw
    simp -implicitDefEqProofs only [TE_c, TE_v, TE_tup, TE_lst, TE_dct, TE_bin, TE_cmp, TE_ite, TE_and, TE_or, TE_not, TE_neg, TE_ix, TE_sl, TO_none, TO_some, TE_call, TE_bi, TE_mt, TE_isi, TEs_nil, TEs_cons, TKV_nil, TKV_cons, TI_seq, TI_rng1, TI_rng2, TT_nm, TT_tp, TT_sub, TTs_nil, TTs_cons, TB_cmp, TB_isi, TB_not, TB_and, TB_or, TB_ite, TC_nil, TC_cons, Res.T_ok, List.getElem?_cons_succ, List.getElem?_cons_zero, List.set_cons_succ, List.set_cons_zero, Option.some.injEq, exists_eq_left', D.int.injEq, D.str.injEq, D.bl.injEq, D.tup.injEq]
    refine ⟨_, rfl, _, eq_strs, ?_⟩
    rw [if_neg (by decide), T_nil, T_cons, T_iff, TB_cmp]
    simp -implicitDefEqProofs only [TE_c, TE_v, TE_tup, TE_lst, TE_dct, TE_bin, TE_cmp, TE_ite, TE_and, TE_or, TE_not, TE_neg, TE_ix, TE_sl, TO_none, TO_some, TE_call, TE_bi, TE_mt, TE_isi, TEs_nil, TEs_cons, TKV_nil, TKV_cons, TI_seq, TI_rng1, TI_rng2, TT_nm, TT_tp, TT_sub, TTs_nil, TTs_cons, TB_cmp, TB_isi, TB_not, TB_and, TB_or, TB_ite, TC_nil, TC_cons, Res.T_ok, List.getElem?_cons_succ, List.getElem?_cons_zero, List.set_cons_succ, List.set_cons_zero, Option.some.injEq, exists_eq_left', D.int.injEq, D.str.injEq, D.bl.injEq, D.tup.injEq]
    refine ⟨_, rfl, _, eq_strs, ?_⟩
    rw [if_neg (by decide), T_nil, T_cons, T_ret]
    simp -implicitDefEqProofs only [TE_c, TE_v, TE_tup, TE_lst, TE_dct, TE_bin, TE_cmp, TE_ite, TE_and, TE_or, TE_not, TE_neg, TE_ix, TE_sl, TO_none, TO_some, TE_call, TE_bi, TE_mt, TE_isi, TEs_nil, TEs_cons, TKV_nil, TKV_cons, TI_seq, TI_rng1, TI_rng2, TT_nm, TT_tp, TT_sub, TTs_nil, TTs_cons, TB_cmp, TB_isi, TB_not, TB_and, TB_or, TB_ite, TC_nil, TC_cons, Res.T_ok, List.getElem?_cons_succ, List.getElem?_cons_zero, List.set_cons_succ, List.set_cons_zero, Option.some.injEq, exists_eq_left', D.int.injEq, D.str.injEq, D.bl.injEq, D.tup.injEq, binop]
    refine ⟨_, rfl, ?_⟩
    simp only [TA_str, List.length_append, List.length_cons, List.length_nil]
    refine ⟨L_le (by omega), _, rfl, _, eq_strs, ?_⟩
    rw [if_neg (by decide)]
    refine ⟨L_le (by omega), _, rfl, ?_⟩
    refine val_T hv fun w hw lw => ?_
    simp only [TA_str, List.length_append, List.length_cons, List.length_nil, List.append_nil]
    refine ⟨L_le (by omega), L_le (by omega), trivial, _, rfl, ?_, ?_⟩
    · exact cl_close (b := []) (opn_app (cl_close (b := [61, 32]) (opn_n ‹r ∈ NAMES›) sp32 (cl_cons (spO (by decide)) (cl_cons sp32 cl_nil))) hw) (spO (by decide)) cl_nil
    · simp only [List.length_append, List.length_cons, List.length_nil]; omega
  | swap hr hw hv =>
    rename_i r pl v
    have lr := len_n r hr
    have lp := len_n pl hw
    have hpl : Opn pl := opn_n hw
    simp -implicitDefEqProofs only [TE_c, TE_v, TE_tup, TE_lst, TE_dct, TE_bin, TE_cmp, TE_ite, TE_and, TE_or, TE_not, TE_neg, TE_ix, TE_sl, TO_none, TO_some, TE_call, TE_bi, TE_mt, TE_isi, TEs_nil, TEs_cons, TKV_nil, TKV_cons, TI_seq, TI_rng1, TI_rng2, TT_nm, TT_tp, TT_sub, TTs_nil, TTs_cons, TB_cmp, TB_isi, TB_not, TB_and, TB_or, TB_ite, TC_nil, TC_cons, Res.T_ok, List.getElem?_cons_succ, List.getElem?_cons_zero, List.set_cons_succ, List.set_cons_zero, Option.some.injEq, exists_eq_left', D.int.injEq, D.str.injEq, D.bl.injEq, D.tup.injEq]
    refine ⟨_, rfl, _, eq_strs, ?_⟩
    rw [if_neg (by decide), T_nil, T_cons, T_iff, TB_cmp]
    simp -implicitDefEqProofs only [TE_c, TE_v, TE_tup, TE_lst, TE_dct, TE_bin, TE_cmp, TE_ite, TE_and, TE_or, TE_not, TE_neg, TE_ix, TE_sl, TO_none, TO_some, TE_call, TE_bi, TE_mt, TE_isi, TEs_nil, TEs_cons, TKV_nil, TKV_cons, TI_seq, TI_rng1, TI_rng2, TT_nm, TT_tp, TT_sub, TTs_nil, TTs_cons, TB_cmp, TB_isi, TB_not, TB_and, TB_or, TB_ite, TC_nil, TC_cons, Res.T_ok, List.getElem?_cons_succ, List.getElem?_cons_zero, List.set_cons_succ, List.set_cons_zero, Option.some.injEq, exists_eq_left', D.int.injEq, D.str.injEq, D.bl.injEq, D.tup.injEq]
    refine ⟨_, rfl, _, eq_strs, ?_⟩
    rw [if_neg (by decide), T_nil, T_cons, T_ret]
    simp -implicitDefEqProofs only [TE_c, TE_v, TE_tup, TE_lst, TE_dct, TE_bin, TE_cmp, TE_ite, TE_and, TE_or, TE_not, TE_neg, TE_ix, TE_sl, TO_none, TO_some, TE_call, TE_bi, TE_mt, TE_isi, TEs_nil, TEs_cons, TKV_nil, TKV_cons, TI_seq, TI_rng1, TI_rng2, TT_nm, TT_tp, TT_sub, TTs_nil, TTs_cons, TB_cmp, TB_isi, TB_not, TB_and, TB_or, TB_ite, TC_nil, TC_cons, Res.T_ok, List.getElem?_cons_succ, List.getElem?_cons_zero, List.set_cons_succ, List.set_cons_zero, Option.some.injEq, exists_eq_left', D.int.injEq, D.str.injEq, D.bl.injEq, D.tup.injEq, binop]
    refine ⟨_, rfl, ?_⟩
    simp only [TA_str, List.length_append, List.length_cons, List.length_nil]
    refine ⟨L_le (by omega), _, rfl, _, eq_strs, ?_⟩
    rw [if_pos (by decide)]
    refine ⟨_, rfl, ?_⟩
    simp only [TA_str, List.length_append, List.length_cons, List.length_nil]
    refine ⟨L_le (by omega), L_le (by omega), L_le (by omega), _, rfl, ?_⟩
    refine val_T hv fun w hw lw => ?_
    simp only [TA_str, List.length_append, List.length_cons, List.length_nil, List.append_nil]
    refine ⟨L_le (by omega), L_le (by omega), trivial, _, rfl, ?_, ?_⟩
    · have c1 : Cl (r ++ [32, 61, 32]) := cl_close (b := [61, 32]) (opn_n hr) sp32 (cl_cons (spO (by decide)) (cl_cons sp32 cl_nil))
      have c2 : Cl (sSwap ++ [32]) := cl_close (b := []) (opn_w (by decide)) sp32 cl_nil
      have c3 : Cl (sSwap ++ [32] ++ pl ++ [32]) := cl_close (b := []) (opn_app c2 hpl) sp32 cl_nil
      exact cl_close (b := []) (opn_app (cl_app c1 c3) hw) (spO (by decide)) cl_nil
    · simp only [List.length_append, List.length_cons, List.length_nil]; omega
theorem sT_all {ts : List S} {P : S → Prop} {t : S} (h : ∀ x ∈ ts, P x) (p : P t) : ∀ x ∈ ts ++ [t], P x := fun x hx => by
  rcases List.mem_append.mp hx with z | z
  · exact h x z
  · rw [List.mem_singleton.mp z]; exact p
theorem ttext_T {d : D} (th : ThrT d) (h : Hs) : (run (Pg G) (n + 2) 18 [d] h).T fun d h' => (∃ g, h' = h ++ g) ∧ ∃ t, d = .str t ∧ Cl t ∧ t.length ≤ 600 := by
  obtain ⟨w, hw, sts, rfl, hsl, hst⟩ := th
  have lw := len_n w hw
  refine run_T rfl rfl ?_
  show (exSs _ f18 [some (.tup [.str w, .tup sts]), none] h).T _ _ _ _
  unfold f18
  rw [T_cons, T_ret]
  rw [TE_bin, TE_bin, TE_bin, TE_bin]
  simp -implicitDefEqProofs only [TE_c, TE_v, TE_tup, TE_lst, TE_dct, TE_bin, TE_cmp, TE_ite, TE_and, TE_or, TE_not, TE_neg, TE_ix, TE_sl, TO_none, TO_some, TE_call, TE_bi, TE_mt, TE_isi, TEs_nil, TEs_cons, TKV_nil, TKV_cons, TI_seq, TI_rng1, TI_rng2, TT_nm, TT_tp, TT_sub, TTs_nil, TTs_cons, TB_cmp, TB_isi, TB_not, TB_and, TB_or, TB_ite, TC_nil, TC_cons, Res.T_ok, List.getElem?_cons_succ, List.getElem?_cons_zero, List.set_cons_succ, List.set_cons_zero, Option.some.injEq, exists_eq_left', D.int.injEq, D.str.injEq, D.bl.injEq, D.tup.injEq, binop]
  refine ⟨_, rfl, ?_⟩
  simp only [TA_str, List.length_append, List.length_cons, List.length_nil]
  refine ⟨L_le (by omega), L_le (by omega), rfl, ?_⟩
  refine T_lcV (fun i acc h' => h' = h ∧ ∃ ts : List S, acc = ts.map .str ∧ ts.length = i ∧ (∀ t ∈ ts, Cl t) ∧ ∀ t ∈ ts, t.length ≤ 61) sts ?_ ?_ ?_
  · simp -implicitDefEqProofs only [TE_c, TE_v, TE_tup, TE_lst, TE_dct, TE_bin, TE_cmp, TE_ite, TE_and, TE_or, TE_not, TE_neg, TE_ix, TE_sl, TO_none, TO_some, TE_call, TE_bi, TE_mt, TE_isi, TEs_nil, TEs_cons, TKV_nil, TKV_cons, TI_seq, TI_rng1, TI_rng2, TT_nm, TT_tp, TT_sub, TTs_nil, TTs_cons, TB_cmp, TB_isi, TB_not, TB_and, TB_or, TB_ite, TC_nil, TC_cons, Res.T_ok, List.getElem?_cons_succ, List.getElem?_cons_zero, List.set_cons_succ, List.set_cons_zero, Option.some.injEq, exists_eq_left', D.int.injEq, D.str.injEq, D.bl.injEq, D.tup.injEq]
    exact ⟨_, rfl, _, rfl, rfl, trivial, [], rfl, rfl, by simp, by simp⟩
  · rintro i d acc h' hd ⟨rfl, ts, rfl, htl, hcl, hle⟩
    have hi := (List.getElem?_eq_some_iff.mp hd).1
    show (evT _ (.nm 1) d [some (.tup [.str w, .tup sts]), none] h').T _
    simp -implicitDefEqProofs only [TE_c, TE_v, TE_tup, TE_lst, TE_dct, TE_bin, TE_cmp, TE_ite, TE_and, TE_or, TE_not, TE_neg, TE_ix, TE_sl, TO_none, TO_some, TE_call, TE_bi, TE_mt, TE_isi, TEs_nil, TEs_cons, TKV_nil, TKV_cons, TI_seq, TI_rng1, TI_rng2, TT_nm, TT_tp, TT_sub, TTs_nil, TTs_cons, TB_cmp, TB_isi, TB_not, TB_and, TB_or, TB_ite, TC_nil, TC_cons, Res.T_ok, List.getElem?_cons_succ, List.getElem?_cons_zero, List.set_cons_succ, List.set_cons_zero, Option.some.injEq, exists_eq_left', D.int.injEq, D.str.injEq, D.bl.injEq, D.tup.injEq, binop]
    refine (stext_T (n := n) (hst d (List.mem_of_getElem? hd)) h').mono fun d2 h2 ⟨e1, t, e2, hc, ht⟩ => ?_
    subst e1 e2
    simp only [TA_str, List.length_append, List.length_cons, List.length_nil, List.length_map]
    refine ⟨L_le (by omega), L_lt (by omega), trivial, ts ++ [t ++ [32]], by simp, by simp [htl], sT_all hcl (cl_app hc (cl_cons sp32 cl_nil)), sT_all hle (by simp; omega)⟩
  · rintro acc h' ⟨rfl, ts, rfl, htl, hcl, hle⟩
    show (mtJoin (.str []) [.ref h'.length] _).T _
    unfold mtJoin
    simp only [seqOf, List.getElem?_concat_length]
    refine joinIf_T hle (by rw [htl]; show sts.length * 61 + sts.length * 0 ≤ _; exact L_le (by omega)) ?_
    have hj := joinS_len (sep := []) ts hle
    rw [htl] at hj
    have hj2 : (joinS [] ts).length ≤ 500 := Nat.le_trans hj (by show sts.length * 61 ≤ 500; omega)
    simp only [TA_str, List.length_append, List.length_cons, List.length_nil]
    refine ⟨L_le (by omega), L_le (by omega), ⟨_, rfl⟩, _, rfl, ?_, ?_⟩
    · have c1 : Cl [116, 104, 114, 101, 97, 100, 32] := cl_close (a := [116, 104, 114, 101, 97, 100]) (b := []) (opn_w (by decide)) sp32 cl_nil
      have c2 : Cl (w ++ [32, 123, 32]) := cl_close (b := [123, 32]) (opn_n hw) sp32 (cl_cons (spO (by decide)) (cl_cons sp32 cl_nil))
      have e : [116, 104, 114, 101, 97, 100, 32] ++ w ++ [32, 123, 32] = [116, 104, 114, 101, 97, 100, 32] ++ (w ++ [32, 123, 32]) := List.append_assoc ..
      rw [e]
      exact cl_app (cl_app (cl_app c1 c2) (joinS_cl cl_nil ts hcl)) (cl_cons (spO (by decide)) cl_nil)
    · simp only [List.length_append, List.length_cons, List.length_nil]; omega
theorem etext_T {d : D} (e : EndT d) (h : Hs) : (run (Pg G) (n + 1) 19 [d] h).T fun d h' => h' = h ∧ ∃ t, d = .str t ∧ Opn t ∧ t.length ≤ 20 := by
  have dot : Cl [32, 61, 32] := cl_eq
  obtain ⟨k, hk, ⟨w, hw, rfl⟩ | ⟨a, ha, b, hb, rfl⟩⟩ := e
  · have lw := len_n w hw
    have lk := strI_dig k hk
    refine run_T rfl rfl ?_
    show (exSs _ f19 [some (.tup [.str sPlace, .str w, .int (k : Int)])] h).T _ _ _ _
    unfold f19
    rw [T_cons, T_ret]
    simp -implicitDefEqProofs only [TE_c, TE_v, TE_tup, TE_lst, TE_dct, TE_bin, TE_cmp, TE_ite, TE_and, TE_or, TE_not, TE_neg, TE_ix, TE_sl, TO_none, TO_some, TE_call, TE_bi, TE_mt, TE_isi, TEs_nil, TEs_cons, TKV_nil, TKV_cons, TI_seq, TI_rng1, TI_rng2, TT_nm, TT_tp, TT_sub, TTs_nil, TTs_cons, TB_cmp, TB_isi, TB_not, TB_and, TB_or, TB_ite, TC_nil, TC_cons, Res.T_ok, List.getElem?_cons_succ, List.getElem?_cons_zero, List.set_cons_succ, List.set_cons_zero, Option.some.injEq, exists_eq_left', D.int.injEq, D.str.injEq, D.bl.injEq, D.tup.injEq, binop]
    refine ⟨rfl, ?_⟩
    show (joinIf [46] ([w].map .str) h).T _
    refine joinIf_T (m := 5) (ts := [w]) (by simpa using lw) (by show 6 ≤ 16777216; decide) ?_
    have ej : joinS [46] [w] = w := rfl
    rw [ej]
    simp only [TA_str, List.length_append, List.length_cons, List.length_nil]
    refine ⟨L_le (by omega), _, rfl, str_fig hk ?_⟩
    simp only [TA_str, List.length_append, List.length_cons, List.length_nil]
    refine ⟨L_le (by omega), trivial, _, rfl, ?_, ?_⟩
    · exact opn_app (cl_close (b := [61, 32]) (opn_n hw) sp32 (cl_cons (spO (by decide)) (cl_cons sp32 cl_nil))) (opn_w lk.1)
    · simp only [List.length_append, List.length_cons, List.length_nil]; omega
  · have la := len_n a ha
    have lb := len_n b hb
    have lk := strI_dig k hk
    refine run_T rfl rfl ?_
    show (exSs _ f19 [some (.tup [.str sReg, .str a, .str b, .int (k : Int)])] h).T _ _ _ _
    unfold f19
    rw [T_cons, T_ret]
    simp -implicitDefEqProofs only [TE_c, TE_v, TE_tup, TE_lst, TE_dct, TE_bin, TE_cmp, TE_ite, TE_and, TE_or, TE_not, TE_neg, TE_ix, TE_sl, TO_none, TO_some, TE_call, TE_bi, TE_mt, TE_isi, TEs_nil, TEs_cons, TKV_nil, TKV_cons, TI_seq, TI_rng1, TI_rng2, TT_nm, TT_tp, TT_sub, TTs_nil, TTs_cons, TB_cmp, TB_isi, TB_not, TB_and, TB_or, TB_ite, TC_nil, TC_cons, Res.T_ok, List.getElem?_cons_succ, List.getElem?_cons_zero, List.set_cons_succ, List.set_cons_zero, Option.some.injEq, exists_eq_left', D.int.injEq, D.str.injEq, D.bl.injEq, D.tup.injEq, binop]
    refine ⟨rfl, ?_⟩
    show (joinIf [46] ([a, b].map .str) h).T _
    refine joinIf_T (m := 5) (ts := [a, b]) (by simpa using ⟨la, lb⟩) (by show 12 ≤ 16777216; decide) ?_
    have ej : joinS [46] [a, b] = a ++ [46] ++ b := rfl
    rw [ej]
    simp only [TA_str, List.length_append, List.length_cons, List.length_nil]
    refine ⟨L_le (by omega), _, rfl, str_fig hk ?_⟩
    simp only [TA_str, List.length_append, List.length_cons, List.length_nil]
    refine ⟨L_le (by omega), trivial, _, rfl, ?_, ?_⟩
    · have c1 : Cl (a ++ [46]) := cl_close (b := []) (opn_n ha) (spO (by decide)) cl_nil
      exact opn_app (cl_close (b := [61, 32]) (opn_app c1 (opn_n hb)) sp32 (cl_cons (spO (by decide)) (cl_cons sp32 cl_nil))) (opn_w lk.1)
    · simp only [List.length_append, List.length_cons, List.length_nil]; omega
end HD
end

section
set_option linter.all false
set_option maxRecDepth 100000
set_option maxHeartbeats 1000000
/-! MQ3: printing: asks, a tree; its words. -/
namespace HD
open MI
variable {G : List D → Hs → Res D} {n : Nat}
theorem atext_T {d : D} (a : AskT d) (h : Hs) : (run (Pg G) (n + 2) 20 [d] h).T fun d h' => (∃ g, h' = h ++ g) ∧ ∃ t, d = .str t ∧ Opn t ∧ t.length ≤ 100 := by
  obtain ⟨w, hw, m, hm, es, rfl, hne, hel, hes⟩ := a
  have lw := len_n w hw
  have lm := len_m m hm
  have ow := opn_n hw
  have om := opn_m hm
  refine run_T rfl rfl ?_
  show (exSs _ f20 [some (.tup [.str w, .str m, .tup es]), none] h).T _ _ _ _
  unfold f20
  rw [T_cons, T_ret]
  simp -implicitDefEqProofs only [TE_c, TE_v, TE_tup, TE_lst, TE_dct, TE_bin, TE_cmp, TE_ite, TE_and, TE_or, TE_not, TE_neg, TE_ix, TE_sl, TO_none, TO_some, TE_call, TE_bi, TE_mt, TE_isi, TEs_nil, TEs_cons, TKV_nil, TKV_cons, TI_seq, TI_rng1, TI_rng2, TT_nm, TT_tp, TT_sub, TTs_nil, TTs_cons, TB_cmp, TB_isi, TB_not, TB_and, TB_or, TB_ite, TC_nil, TC_cons, Res.T_ok, List.getElem?_cons_succ, List.getElem?_cons_zero, List.set_cons_succ, List.set_cons_zero, Option.some.injEq, exists_eq_left', D.int.injEq, D.str.injEq, D.bl.injEq, D.tup.injEq, binop]
  refine ⟨_, rfl, ?_⟩
  simp only [TA_str, List.length_append, List.length_cons, List.length_nil]
  refine ⟨L_le (by omega), L_le (by omega), _, rfl, ?_⟩
  simp only [TA_str, List.length_append, List.length_cons, List.length_nil]
  refine ⟨L_le (by omega), L_le (by omega), rfl, ?_⟩
  refine T_lcV (fun i acc h' => h' = h ∧ ∃ ts : List S, acc = ts.map .str ∧ ts.length = i ∧ (∀ t ∈ ts, Opn t) ∧ ∀ t ∈ ts, t.length ≤ 20) es ?_ ?_ ?_
  · simp -implicitDefEqProofs only [TE_c, TE_v, TE_tup, TE_lst, TE_dct, TE_bin, TE_cmp, TE_ite, TE_and, TE_or, TE_not, TE_neg, TE_ix, TE_sl, TO_none, TO_some, TE_call, TE_bi, TE_mt, TE_isi, TEs_nil, TEs_cons, TKV_nil, TKV_cons, TI_seq, TI_rng1, TI_rng2, TT_nm, TT_tp, TT_sub, TTs_nil, TTs_cons, TB_cmp, TB_isi, TB_not, TB_and, TB_or, TB_ite, TC_nil, TC_cons, Res.T_ok, List.getElem?_cons_succ, List.getElem?_cons_zero, List.set_cons_succ, List.set_cons_zero, Option.some.injEq, exists_eq_left', D.int.injEq, D.str.injEq, D.bl.injEq, D.tup.injEq]
    exact ⟨_, rfl, _, rfl, rfl, trivial, [], rfl, rfl, by simp, by simp⟩
  · rintro i d acc h' hd ⟨rfl, ts, rfl, htl, hcl, hle⟩
    have hi := (List.getElem?_eq_some_iff.mp hd).1
    show (evT _ (.nm 1) d [some (.tup [.str w, .str m, .tup es]), none] h').T _
    simp -implicitDefEqProofs only [TE_c, TE_v, TE_tup, TE_lst, TE_dct, TE_bin, TE_cmp, TE_ite, TE_and, TE_or, TE_not, TE_neg, TE_ix, TE_sl, TO_none, TO_some, TE_call, TE_bi, TE_mt, TE_isi, TEs_nil, TEs_cons, TKV_nil, TKV_cons, TI_seq, TI_rng1, TI_rng2, TT_nm, TT_tp, TT_sub, TTs_nil, TTs_cons, TB_cmp, TB_isi, TB_not, TB_and, TB_or, TB_ite, TC_nil, TC_cons, Res.T_ok, List.getElem?_cons_succ, List.getElem?_cons_zero, List.set_cons_succ, List.set_cons_zero, Option.some.injEq, exists_eq_left', D.int.injEq, D.str.injEq, D.bl.injEq, D.tup.injEq, binop]
    refine (etext_T (n := n) (hes d (List.mem_of_getElem? hd)) h').mono fun d2 h2 ⟨e1, t, e2, hc, ht⟩ => ?_
    subst e1 e2
    rw [List.length_map]
    exact ⟨L_lt (by omega), rfl, ts ++ [t], by simp, by simp [htl], sT_all hcl hc, sT_all hle ht⟩
  · rintro acc h' ⟨rfl, ts, rfl, htl, hcl, hle⟩
    show (mtJoin (.str [32, 97, 110, 100, 32]) [.ref h'.length] _).T _
    unfold mtJoin
    simp only [seqOf, List.getElem?_concat_length]
    refine joinIf_T hle (by rw [htl]; show es.length * 20 + es.length * 5 ≤ _; exact L_le (by omega)) ?_
    have hj := joinS_len (sep := [32, 97, 110, 100, 32]) ts hle
    rw [htl] at hj
    have hj2 : (joinS [32, 97, 110, 100, 32] ts).length ≤ 75 := Nat.le_trans hj (by show es.length * 25 ≤ 75; omega)
    simp only [TA_str, List.length_append, List.length_cons, List.length_nil]
    refine ⟨L_le (by omega), ⟨_, rfl⟩, _, rfl, ?_, ?_⟩
    · have c1 : Cl [97, 115, 107, 32] := cl_close (a := [97, 115, 107]) (b := []) (opn_w (by decide)) sp32 cl_nil
      have c2 : Cl (w ++ [32]) := cl_close (b := []) ow sp32 cl_nil
      have c3 : Cl (m ++ [58, 32]) := cl_close (b := [32]) om (spO (by decide)) (cl_cons sp32 cl_nil)
      have ca : Cl [97, 110, 100, 32] := cl_close (a := [97, 110, 100]) (b := []) (opn_w (by decide)) sp32 cl_nil
      have oj := joinS_opn sp32 ca ts hcl
      have e : [97, 115, 107, 32] ++ w ++ [32] ++ m ++ [58, 32] = [97, 115, 107, 32] ++ (w ++ [32]) ++ (m ++ [58, 32]) := by simp
      rw [e]
      exact opn_app (cl_app (cl_app c1 c2) c3) oj
    · simp only [List.length_append, List.length_cons, List.length_nil]; omega
theorem places_cl {ps : List S} (hps : Nms ps) : Cl ([112, 108, 97, 99, 101, 32] ++ joinS [44, 32] ps ++ [59]) := by
  have c1 : Cl [112, 108, 97, 99, 101, 32] := cl_close (a := [112, 108, 97, 99, 101]) (b := []) (opn_w (by decide)) sp32 cl_nil
  exact cl_close (b := []) (opn_app c1 (joinS_opn (spO (by decide)) (cl_cons sp32 cl_nil) ps fun t ht => opn_n (hps t ht))) (spO (by decide)) cl_nil
/-- what is printed: places, threads, asks -/
theorem printed_T {ps : List S} {ths as : List D} (hps : Nms ps) (hpl : ps.length ≤ 5) (hth : ∀ t ∈ ths, ThrT t) (htl : ths.length ≤ 3) (has : ∀ a ∈ as, AskT a) (hal : as.length ≤ 3) (h : Hs) :
    (run (Pg G) (n + 3) 21 [.tup [.tup (ps.map .str), .tup ths, .tup as]] h).T fun d h' => (∃ g, h' = h ++ g) ∧ ∃ t, d = .str t ∧ PT t ∧ t.length ≤ 5000 := by
  refine run_T rfl rfl ?_
  show (exSs _ f21 [some (.tup [.tup (ps.map .str), .tup ths, .tup as]), none, none, none] h).T _ _ _ _
  unfold f21
  -- behind the first row
  have rest : ∀ (ls : List S) (h1 : Hs) (k : Nat), (∃ g, h1 = h ++ g) → h1[k]? = some (.lst (ls.map .str)) → ls.length ≤ 1 → (∀ t ∈ ls, Cl t) → (∀ t ∈ ls, t.length ≤ 400) → (exSs ⟨run (Pg G) (n + 2), itω⟩ (.cons (.ret (.mt .join (.c (.str [10])) (.cons (.bin .add (.bin .add (.v 1) (.lc [3] (.call 18 (.cons (.v 3) .nil)) (.nm 3) (.seq (.ix (.v 0) (.c (.int (1))))) .nil)) (.lc [2] (.bin .add (.call 20 (.cons (.v 2) .nil)) (.c (.str [59]))) (.nm 2) (.seq (.ix (.v 0) (.c (.int (2))))) .nil)) .nil))) .nil) [some (.tup [.tup (ps.map .str), .tup ths, .tup as]), some (.ref k), none, none] h1).T
      (fun _ h_1 => (∃ g, h_1 = h ++ g) ∧ ∃ t, D.non = .str t ∧ PT t ∧ t.length ≤ 5000) (fun d h' => (∃ g, h' = h ++ g) ∧ ∃ t, d = .str t ∧ PT t ∧ t.length ≤ 5000) No No := by
    intro ls h1 k ⟨g, e1⟩ hk hl1 hcl hle
    rw [T_cons, T_ret, TE_mt]
    rw [TE_c]
    refine ⟨rfl, ?_⟩
    rw [TEs_cons, TE_bin, TE_bin, TE_v]
    refine ⟨_, rfl, ?_⟩
    have hkl := (List.getElem?_eq_some_iff.mp hk).1
    refine T_lcV (fun i acc h' => (∃ g, h' = h1 ++ g) ∧ ∃ ts : List S, acc = ts.map .str ∧ ts.length = i ∧ (∀ t ∈ ts, Cl t) ∧ ∀ t ∈ ts, t.length ≤ 600) ths ?_ ?_ ?_
    · simp -implicitDefEqProofs only [TE_c, TE_v, TE_tup, TE_lst, TE_dct, TE_bin, TE_cmp, TE_ite, TE_and, TE_or, TE_not, TE_neg, TE_ix, TE_sl, TO_none, TO_some, TE_call, TE_bi, TE_mt, TE_isi, TEs_nil, TEs_cons, TKV_nil, TKV_cons, TI_seq, TI_rng1, TI_rng2, TT_nm, TT_tp, TT_sub, TTs_nil, TTs_cons, TB_cmp, TB_isi, TB_not, TB_and, TB_or, TB_ite, TC_nil, TC_cons, Res.T_ok, List.getElem?_cons_succ, List.getElem?_cons_zero, List.set_cons_succ, List.set_cons_zero, Option.some.injEq, exists_eq_left', D.int.injEq, D.str.injEq, D.bl.injEq, D.tup.injEq]
      exact ⟨_, rfl, _, rfl, rfl, ⟨[], by simp⟩, [], rfl, rfl, by simp, by simp⟩
    · rintro i d acc h' hd ⟨⟨g', rfl⟩, ts, rfl, htl', hcl, hle⟩
      have hi := (List.getElem?_eq_some_iff.mp hd).1
      show (evT _ (.nm 3) d [some (.tup [.tup (ps.map .str), .tup ths, .tup as]), some (.ref k), none, none] _).T _
      simp -implicitDefEqProofs only [TE_c, TE_v, TE_tup, TE_lst, TE_dct, TE_bin, TE_cmp, TE_ite, TE_and, TE_or, TE_not, TE_neg, TE_ix, TE_sl, TO_none, TO_some, TE_call, TE_bi, TE_mt, TE_isi, TEs_nil, TEs_cons, TKV_nil, TKV_cons, TI_seq, TI_rng1, TI_rng2, TT_nm, TT_tp, TT_sub, TTs_nil, TTs_cons, TB_cmp, TB_isi, TB_not, TB_and, TB_or, TB_ite, TC_nil, TC_cons, Res.T_ok, List.getElem?_cons_succ, List.getElem?_cons_zero, List.set_cons_succ, List.set_cons_zero, Option.some.injEq, exists_eq_left', D.int.injEq, D.str.injEq, D.bl.injEq, D.tup.injEq, binop]
      refine (ttext_T (n := n) (hth d (List.mem_of_getElem? hd)) _).mono fun d2 h2 ⟨⟨g2, e1⟩, t, e2, hc, ht⟩ => ?_
      subst e1 e2
      rw [List.length_map]
      exact ⟨L_lt (by omega), ⟨g' ++ g2, by simp⟩, ts ++ [t], by simp, by simp [htl'], sT_all hcl hc, sT_all hle ht⟩
    · rintro acc h' ⟨⟨g', rfl⟩, ts, rfl, htl', hcl2, hle2⟩
      refine add_ref (a := ls.map .str) (b := ts.map .str) ?_ (List.getElem?_concat_length ..) (by rw [List.length_map, List.length_map]; exact L_le (by omega)) ?_
      · rw [List.append_assoc, List.getElem?_append_left hkl]; exact hk
      have hk2 : (h1 ++ g' ++ [MO.lst (ts.map D.str)] ++ [MO.lst (ls.map D.str ++ ts.map D.str)])[(h1 ++ g' ++ [MO.lst (ts.map D.str)]).length]? = some (.lst ((ls ++ ts).map .str)) := by
        rw [List.map_append]; exact List.getElem?_concat_length ..
      have hg2 : ∃ g2, h1 ++ g' ++ [MO.lst (ts.map D.str)] ++ [MO.lst (ls.map D.str ++ ts.map D.str)] = h1 ++ g2 := ⟨_, by rw [List.append_assoc, List.append_assoc]⟩
      generalize (h1 ++ g' ++ [MO.lst (ts.map D.str)]).length = k2 at hk2
      generalize h1 ++ g' ++ [MO.lst (ts.map D.str)] ++ [MO.lst (ls.map D.str ++ ts.map D.str)] = h2 at hk2 hg2
      have hk2l := (List.getElem?_eq_some_iff.mp hk2).1
      have hls : (ls ++ ts).length ≤ 4 := by rw [List.length_append]; omega
      have hlcl : ∀ t ∈ ls ++ ts, Cl t := fun t ht => (List.mem_append.mp ht).elim (hcl t) (hcl2 t)
      have hlle : ∀ t ∈ ls ++ ts, t.length ≤ 600 := fun t ht => (List.mem_append.mp ht).elim (fun z => by have := hle t z; omega) (hle2 t)
      generalize ls ++ ts = ls2 at hk2 hls hlcl hlle
      refine T_lcV (fun i acc h' => (∃ g, h' = h2 ++ g) ∧ ∃ ts : List S, acc = ts.map .str ∧ ts.length = i ∧ (∀ t ∈ ts, Cl t) ∧ ∀ t ∈ ts, t.length ≤ 101) as ?_ ?_ ?_
      · simp -implicitDefEqProofs only [TE_c, TE_v, TE_tup, TE_lst, TE_dct, TE_bin, TE_cmp, TE_ite, TE_and, TE_or, TE_not, TE_neg, TE_ix, TE_sl, TO_none, TO_some, TE_call, TE_bi, TE_mt, TE_isi, TEs_nil, TEs_cons, TKV_nil, TKV_cons, TI_seq, TI_rng1, TI_rng2, TT_nm, TT_tp, TT_sub, TTs_nil, TTs_cons, TB_cmp, TB_isi, TB_not, TB_and, TB_or, TB_ite, TC_nil, TC_cons, Res.T_ok, List.getElem?_cons_succ, List.getElem?_cons_zero, List.set_cons_succ, List.set_cons_zero, Option.some.injEq, exists_eq_left', D.int.injEq, D.str.injEq, D.bl.injEq, D.tup.injEq]
        exact ⟨_, rfl, _, rfl, rfl, ⟨[], by simp⟩, [], rfl, rfl, by simp, by simp⟩
      · rintro i d acc h' hd ⟨⟨g', rfl⟩, ts, rfl, htl', hcl, hle⟩
        have hi := (List.getElem?_eq_some_iff.mp hd).1
        show (evT _ (.nm 2) d [some (.tup [.tup (ps.map .str), .tup ths, .tup as]), some (.ref k), none, none] _).T _
        simp -implicitDefEqProofs only [TE_c, TE_v, TE_tup, TE_lst, TE_dct, TE_bin, TE_cmp, TE_ite, TE_and, TE_or, TE_not, TE_neg, TE_ix, TE_sl, TO_none, TO_some, TE_call, TE_bi, TE_mt, TE_isi, TEs_nil, TEs_cons, TKV_nil, TKV_cons, TI_seq, TI_rng1, TI_rng2, TT_nm, TT_tp, TT_sub, TTs_nil, TTs_cons, TB_cmp, TB_isi, TB_not, TB_and, TB_or, TB_ite, TC_nil, TC_cons, Res.T_ok, List.getElem?_cons_succ, List.getElem?_cons_zero, List.set_cons_succ, List.set_cons_zero, Option.some.injEq, exists_eq_left', D.int.injEq, D.str.injEq, D.bl.injEq, D.tup.injEq, binop]
        refine (atext_T (n := n) (has d (List.mem_of_getElem? hd)) _).mono fun d2 h2 ⟨⟨g2, e1⟩, t, e2, hc, ht⟩ => ?_
        subst e1 e2
        simp only [TA_str, List.length_append, List.length_cons, List.length_nil, List.length_map]
        exact ⟨L_le (by omega), L_lt (by omega), ⟨g' ++ g2, by simp⟩, ts ++ [t ++ [59]], by simp, by simp [htl'], sT_all hcl (cl_close (b := []) hc (spO (by decide)) cl_nil), sT_all hle (by simp; omega)⟩
      · rintro acc h' ⟨⟨g3, rfl⟩, ts3, rfl, htl3, hcl3, hle3⟩
        refine add_ref (a := ls2.map .str) (b := ts3.map .str) ?_ (List.getElem?_concat_length ..) (by rw [List.length_map, List.length_map]; exact L_le (by omega)) ?_
        · rw [List.append_assoc, List.getElem?_append_left hk2l]; exact hk2
        rw [TEs_nil]
        show (mtJoin (.str [10]) [.ref _] _).T _
        unfold mtJoin
        simp only [seqOf, List.getElem?_concat_length]
        rw [← List.map_append]
        have hall : ∀ t ∈ ls2 ++ ts3, t.length ≤ 600 := fun t ht => (List.mem_append.mp ht).elim (hlle t) (fun z => by have := hle3 t z; omega)
        have hcla : ∀ t ∈ ls2 ++ ts3, Cl t := fun t ht => (List.mem_append.mp ht).elim (hlcl t) (hcl3 t)
        have hlen : (ls2 ++ ts3).length ≤ 7 := by rw [List.length_append]; omega
        -- the length, closer
        have hj1 := joinS_len (sep := [10]) (ls2 ++ ts3) hall
        have hj : (joinS [10] (ls2 ++ ts3)).length ≤ 5000 := Nat.le_trans hj1 (by show (ls2 ++ ts3).length * 601 ≤ 5000; omega)
        refine joinIf_T hall (by show _ + _ * 1 ≤ _; exact L_le (by omega)) ?_
        obtain ⟨g2, rfl⟩ := hg2
        subst e1
        exact ⟨⟨_, by rw [List.append_assoc, List.append_assoc, List.append_assoc, List.append_assoc]⟩, _, rfl, pt_cl (joinS_cl (cl_cons sp10 cl_nil) _ hcla), hj⟩
  rw [T_cons, T_asg]
  simp -implicitDefEqProofs only [TE_c, TE_v, TE_tup, TE_lst, TE_dct, TE_bin, TE_cmp, TE_ite, TE_and, TE_or, TE_not, TE_neg, TE_ix, TE_sl, TO_none, TO_some, TE_call, TE_bi, TE_mt, TE_isi, TEs_nil, TEs_cons, TKV_nil, TKV_cons, TI_seq, TI_rng1, TI_rng2, TT_nm, TT_tp, TT_sub, TTs_nil, TTs_cons, TB_cmp, TB_isi, TB_not, TB_and, TB_or, TB_ite, TC_nil, TC_cons, Res.T_ok, List.getElem?_cons_succ, List.getElem?_cons_zero, List.set_cons_succ, List.set_cons_zero, Option.some.injEq, exists_eq_left', D.int.injEq, D.str.injEq, D.bl.injEq, D.tup.injEq, binop]
  refine ⟨_, rfl, le0, ?_⟩
  refine ⟨_, ne_tupnil (h := h) (plains_strs ps), ?_⟩
  cases hpe : (ps.map D.str).isEmpty with
  | true =>
    rw [Bool.not_true, if_neg (by decide)]
    refine ⟨le0, ?_⟩
    exact rest [] _ h.length ⟨_, rfl⟩ (List.getElem?_concat_length ..) (by simp) (by simp) (by simp)
  | false =>
    rw [Bool.not_false, if_pos rfl]
    refine ⟨rfl, _, rfl, ?_⟩
    show (joinIf [44, 32] (ps.map .str) h).T _
    have hle : ∀ t ∈ ps, t.length ≤ 5 := fun t ht => len_n t (hps t ht)
    refine joinIf_T hle (by show _ + _ * 2 ≤ _; exact L_le (by omega)) ?_
    have hj1 := joinS_len (sep := [44, 32]) ps hle
    have hj : (joinS [44, 32] ps).length ≤ 40 := Nat.le_trans hj1 (by show ps.length * 7 ≤ 40; omega)
    simp only [TA_str, List.length_append, List.length_cons, List.length_nil]
    refine ⟨L_le (by omega), L_le (by omega), L_le (by decide), ?_⟩
    refine rest [[112, 108, 97, 99, 101, 32] ++ joinS [44, 32] ps ++ [59]] _ h.length ⟨_, rfl⟩ (List.getElem?_concat_length ..) (by simp) ?_ ?_
    · intro t ht
      rw [List.mem_singleton.mp ht]
      exact places_cl hps
    · intro t ht
      rw [List.mem_singleton.mp ht]
      simp only [List.length_append, List.length_cons, List.length_nil]; omega
/-- what G must be -/
def GOk (G : List D → Hs → Res D) : Prop := ∀ (x : S) (h : Hs), x.length ≤ 262144 → G [.str x] h = .ok (.ref (h.length + 1)) (h ++ [.lst ((splitOn 32 (nlT (expT ONE x))).map .str), .lst ((PW x).map .str)])
theorem parted_T (hG : GOk G) {x : S} (hx : x.length ≤ 262144) (h : Hs) : (run (Pg G) (n + 1) 22 [.str x] h).T fun d h' => ∃ k, d = .ref k ∧ h.length ≤ k ∧ (∃ g, h' = h ++ g) ∧ h'[k]? = some (.lst ((PW x).map .str)) := by
  show (if 1 = 1 then G [.str x] h else .stuck).T _
  rw [if_pos rfl, hG x h hx]
  exact ⟨_, rfl, by omega, ⟨_, rfl⟩, at1⟩
/-- words that are known -/
def WL (k m : Nat) (h : Hs) : Prop := ∃ ws : List S, h[k]? = some (.lst (ws.map .str)) ∧ ws.length ≤ m ∧ ∀ w ∈ ws, w ∈ GALL
theorem partedP_T (hG : GOk G) {x : S} {m : Nat} (p : PT x) (hx : x.length ≤ m) (hm : m ≤ 100000) (h : Hs) : (run (Pg G) (n + 1) 22 [.str x] h).T fun d h' => ∃ k, d = .ref k ∧ h.length ≤ k ∧ (∃ g, h' = h ++ g) ∧ WL k (3 * m + 1) h' :=
  (parted_T hG (by omega) h).mono fun d h' ⟨k, e, hk, hg, hl⟩ => ⟨k, e, hk, hg, _, hl, by have := PW_len x; omega, PT_words p⟩
theorem textof_T (hG : GOk G) {d : D} (b : BookT d) (h : Hs) : (run (Pg G) (n + 4) 23 [d] h).T fun d h' => (∃ g, h' = h ++ g) ∧ ∃ ws : List S, d = .str (joinS [32] ws) ∧ ws.length ≤ 15001 ∧ ∀ w ∈ ws, w ∈ GALL := by
  obtain ⟨ps, ths, as, rfl, hps, hpl, hth, htl, has, hal⟩ := b
  refine run_T rfl rfl ?_
  show (exSs _ f23 [some (.tup [.tup (ps.map .str), .tup ths, .tup as])] h).T _ _ _ _
  unfold f23
  rw [T_cons, T_ret]
  simp -implicitDefEqProofs only [TE_c, TE_v, TE_tup, TE_lst, TE_dct, TE_bin, TE_cmp, TE_ite, TE_and, TE_or, TE_not, TE_neg, TE_ix, TE_sl, TO_none, TO_some, TE_call, TE_bi, TE_mt, TE_isi, TEs_nil, TEs_cons, TKV_nil, TKV_cons, TI_seq, TI_rng1, TI_rng2, TT_nm, TT_tp, TT_sub, TTs_nil, TTs_cons, TB_cmp, TB_isi, TB_not, TB_and, TB_or, TB_ite, TC_nil, TC_cons, Res.T_ok, List.getElem?_cons_succ, List.getElem?_cons_zero, List.set_cons_succ, List.set_cons_zero, Option.some.injEq, exists_eq_left', D.int.injEq, D.str.injEq, D.bl.injEq, D.tup.injEq, binop]
  refine ⟨rfl, ?_⟩
  refine (printed_T (n := n) hps hpl hth htl has hal h).mono fun d h1 ⟨⟨g, e1⟩, t, e2, hp, htl⟩ => ?_
  subst e1 e2
  refine (partedP_T (n := n + 2) hG hp htl (by omega) _).mono fun d h2 ⟨k, e, hk, ⟨g2, hg⟩, ws, hws, hwl, hwg⟩ => ?_
  subst e hg
  show (mtJoin (.str [32]) [.ref k] _).T _
  unfold mtJoin
  simp only [seqOf, hws]
  refine joinIf_T (m := 6) (fun t ht => len_g t (hwg t ht)) (by show _ + _ * 1 ≤ _; show ws.length * 6 + ws.length * 1 ≤ 16777216; omega) ?_
  exact ⟨⟨g ++ g2, by simp⟩, ws, rfl, by omega, hwg⟩
end HD
end

section
set_option linter.all false
set_option maxRecDepth 100000
set_option maxHeartbeats 1000000
/-! MQ4: a loose text of known words is read to its end. -/
namespace HD
open MI
def HS (t : S) : Prop := t = [] ∨ ∃ d r, t = d :: r ∧ d ∉ SGN
/-- a line from here on is read to its end -/
def Lin (x : S) : Prop := ∀ (num : Nat) (y : S) (a : Nat), y.drop a = x → (lineW num y a).2 = false
theorem drop_cons {y x : S} {a c : Nat} (e : y.drop a = c :: x) : ∃ h : a < y.length, y[a] = c ∧ y.drop (a + 1) = x := by
  have h : a < y.length := by
    rcases Nat.lt_or_ge a y.length with h | h
    · exact h
    · rw [List.drop_eq_nil_of_le h] at e; cases e
  rw [List.drop_eq_getElem_cons h] at e
  injection e with e1 e2
  exact ⟨h, e1, e2⟩
theorem drop_app {y w x : S} {a : Nat} (e : y.drop a = w ++ x) : y.drop (a + w.length) = x := by
  rw [← List.drop_drop, e, List.drop_left]
theorem lin_nil : Lin [] := fun num y a e => by
  have h : y.length ≤ a := by
    rcases Nat.lt_or_ge a y.length with h | h
    · rw [List.drop_eq_getElem_cons h] at e; cases e
    · exact h
  rw [lineW_stop h]
theorem lin_sp {x : S} (p : Lin x) : Lin (32 :: x) := fun num y a e => by
  obtain ⟨h, e1, e2⟩ := drop_cons e
  rw [lineW_sp h e1]
  exact p num y _ e2
theorem lin_hash {x : S} : Lin (35 :: x) := fun num y a e => by
  obtain ⟨h, e1, e2⟩ := drop_cons e
  rw [lineW_hash h e1]
/-- a word that is taken as it stands -/
theorem lin_of {w x : S} (hw : w ≠ []) (h35 : w.head? ≠ some 35) (h32 : w.head? ≠ some 32) (hf : ∀ (y : S) (a : Nat), y.drop a = w ++ x → (wfrom y a).1 ≠ sBad ∧ (wfrom y a).2 = w) (p : Lin x) : Lin (w ++ x) := fun num y a e => by
  obtain ⟨c, w', rfl⟩ : ∃ c w', w = c :: w' := by
    cases w with
    | nil => exact absurd rfl hw
    | cons c w' => exact ⟨c, w', rfl⟩
  obtain ⟨h, e1, e2⟩ := drop_cons (show y.drop a = c :: (w' ++ x) from e)
  obtain ⟨f1, f2⟩ := hf y a e
  rw [lineW_go h (fun z => h35 (by rw [← z, e1]; rfl)) (fun z => h32 (by rw [← z, e1]; rfl)) f1, f2]
  exact p num y _ (drop_app e)
theorem lin_one {c : Nat} {x : S} (hc : c ∈ ONE) (p : Lin x) : Lin (c :: x) := by
  have h35 : c ≠ 35 := fun z => by rw [z] at hc; revert hc; decide
  have h32 : c ≠ 32 := fun z => by rw [z] at hc; revert hc; decide
  have hl : ∀ c ∈ ONE, c ∉ LET ∧ c ∉ FIG := by decide
  refine lin_of (w := [c]) (by simp) (by simpa using h35) (by simpa using h32) (fun y a e => ?_) p
  obtain ⟨h, e1, e2⟩ := drop_cons (show y.drop a = c :: x from e)
  unfold wfrom
  rw [List.getElem?_eq_getElem h, e1]
  simp only
  rw [if_neg (hl c hc).1, if_neg (hl c hc).2, if_pos hc]
  exact ⟨by show sSign ≠ sBad; decide, rfl⟩
theorem tw_all {sg w x : S} (hw : ∀ c ∈ w, c ∈ sg) (hx : x = [] ∨ ∃ d r, x = d :: r ∧ d ∉ sg) : (w ++ x).takeWhile (fun c => decide (c ∈ sg)) = w := by
  rw [List.takeWhile_append_of_pos (by simpa using hw)]
  rcases hx with rfl | ⟨d, r, rfl, hd⟩
  · simp
  · rw [List.takeWhile_cons_of_neg (by simpa using hd), List.append_nil]
/-- words that are no signs: what they are -/
def okw (w : S) : Bool := match w with
  | [] => false
  | c :: r => (decide (c ∈ LET) && (c :: r).all (fun d => decide (d ∈ SGN)) && decide ((c :: r).length ≤ 12)) || (decide (c ∈ FIG) && r.isEmpty)
theorem gw_okw : ∀ w ∈ GW, okw w = true := by decide
theorem fig_sgn : ∀ c ∈ FIG, c ∈ SGN ∧ c ∉ LET ∧ c ≠ 35 ∧ c ≠ 32 := by decide
theorem let_ne : ∀ c ∈ LET, c ≠ 35 ∧ c ≠ 32 := by decide
theorem sgn_fig : ∀ c ∈ FIG, c ∈ SGN := fun c hc => (fig_sgn c hc).1
theorem lin_word {w x : S} (hw : okw w = true) (hx : HS x) (p : Lin x) : Lin (w ++ x) := by
  cases w with
  | nil => cases hw
  | cons c r =>
    rcases Bool.or_eq_true _ _ |>.mp hw with hw | hw
    · rw [Bool.and_eq_true, Bool.and_eq_true] at hw
      obtain ⟨⟨h1, h2⟩, h3⟩ := hw
      have h1 := of_decide_eq_true h1
      have h3 := of_decide_eq_true h3
      have h2 : ∀ d ∈ c :: r, d ∈ SGN := by simpa using h2
      refine lin_of (by simp) (by simpa using (let_ne c h1).1) (by simpa using (let_ne c h1).2) (fun y a e => ?_) p
      obtain ⟨h, e1, e2⟩ := drop_cons (show y.drop a = c :: (r ++ x) from e)
      have ew : wd SGN y a = c :: r := by
        unfold wd
        rw [e]
        exact tw_all h2 hx
      unfold wfrom
      rw [List.getElem?_eq_getElem h, e1]
      simp only
      rw [if_pos h1]
      unfold lword
      rw [ew, if_neg (by omega)]
      refine ⟨?_, rfl⟩
      show (if _ then sOwn else sName) ≠ sBad
      split <;> decide
    · rw [Bool.and_eq_true] at hw
      obtain ⟨h1, h2⟩ := hw
      have h1 := of_decide_eq_true h1
      have hr : r = [] := by cases r with
        | nil => rfl
        | cons _ _ => cases h2
      subst hr
      have hf := fig_sgn c h1
      refine lin_of (by simp) (by simpa using hf.2.2.1) (by simpa using hf.2.2.2) (fun y a e => ?_) p
      obtain ⟨h, e1, e2⟩ := drop_cons (show y.drop a = c :: x from e)
      have ew : wd FIG y a = [c] := by
        unfold wd
        rw [e]
        refine tw_all (by simpa using h1) ?_
        rcases hx with hx | ⟨d, r, e, hd⟩
        · exact .inl hx
        · exact .inr ⟨d, r, e, fun z => hd (sgn_fig d z)⟩
      unfold wfrom
      rw [List.getElem?_eq_getElem h, e1]
      simp only
      rw [if_neg hf.2.1, if_pos h1, ew, if_pos (show [c].length = 1 from rfl)]
      exact ⟨by show sNum ≠ sBad; decide, rfl⟩
/-! ### the whole text -/
inductive LX : S → Prop
  | nil : LX []
  | sp {t : S} (p : LX t) : LX (32 :: t)
  | nl {t : S} (p : LX t) : LX (10 :: t)
  | cm {z t : S} (hz : ∀ c ∈ z, c ≠ 10) (p : LX t) : LX (35 :: (z ++ 10 :: t))
  | ce {z : S} (hz : ∀ c ∈ z, c ≠ 10) : LX (35 :: z)
  | one {c : Nat} {t : S} (hc : c ∈ ONE) (p : LX t) : LX (c :: t)
  | word {w t : S} (hw : w ∈ GW) (ht : HS t) (p : LX t) : LX (w ++ t)
theorem splitOn_pre {c : Nat} {t h : S} {tl : List S} (e : splitOn c t = h :: tl) : ∀ w : S, (∀ d ∈ w, d ≠ c) → splitOn c (w ++ t) = (w ++ h) :: tl
  | [], _ => e
  | d :: w, hw => by
    rw [List.cons_append, splitOn_miss c d _ (hw d (by simp)), splitOn_pre e w fun x hx => hw x (List.mem_cons_of_mem _ hx)]
    rfl
theorem splitOn_cons (c : Nat) (t : S) : ∃ h tl, splitOn c t = h :: tl := by
  cases e : splitOn c t with
  | nil => have := splitOn_ne c t; rw [e] at this; exact absurd this (by simp)
  | cons h tl => exact ⟨h, tl, rfl⟩
theorem split_HS {t h : S} {tl : List S} (e : splitOn 10 t = h :: tl) (ht : HS t) : HS h := by
  rcases ht with rfl | ⟨d, r, rfl, hd⟩
  · have : [] = h := by injection e
    exact .inl this.symm
  · by_cases h10 : d = 10
    · subst h10
      rw [splitOn_hit] at e
      injection e with e1 e2
      exact .inl e1.symm
    · obtain ⟨h', tl', e'⟩ := splitOn_cons 10 r
      rw [splitOn_miss 10 d r h10, e'] at e
      injection e with e1 e2
      exact .inr ⟨d, h', e1.symm, hd⟩
theorem LX_lines {t : S} (p : LX t) : ∀ x ∈ splitOn 10 t, Lin x := by
  induction p with
  | nil => intro x hx; rw [List.mem_singleton.mp (show x ∈ [[]] from hx)]; exact lin_nil
  | @sp t p ih =>
    obtain ⟨h, tl, e⟩ := splitOn_cons 10 t
    rw [splitOn_miss 10 32 t (by decide), e]
    rw [e] at ih
    intro x hx
    rcases List.mem_cons.mp hx with rfl | hx
    · exact lin_sp (ih h (by simp))
    · exact ih x (List.mem_cons_of_mem _ hx)
  | @nl t p ih =>
    rw [splitOn_hit]
    intro x hx
    rcases List.mem_cons.mp hx with rfl | hx
    · exact lin_nil
    · exact ih x hx
  | @cm z t hz p ih =>
    have e : splitOn 10 (35 :: (z ++ 10 :: t)) = (35 :: z) :: splitOn 10 t := splitOn_app 10 t (35 :: z) (by
      intro d hd
      rcases List.mem_cons.mp hd with rfl | hd
      · decide
      · exact hz d hd)
    rw [e]
    intro x hx
    rcases List.mem_cons.mp hx with rfl | hx
    · exact lin_hash
    · exact ih x hx
  | @ce z hz =>
    have e : splitOn 10 (35 :: z) = [35 :: z] := splitOn_word 10 (35 :: z) (by
      intro d hd
      rcases List.mem_cons.mp hd with rfl | hd
      · decide
      · exact hz d hd)
    rw [e]
    intro x hx
    rw [List.mem_singleton.mp hx]
    exact lin_hash
  | @one c t hc p ih =>
    obtain ⟨h, tl, e⟩ := splitOn_cons 10 t
    have h10 : c ≠ 10 := fun z => by rw [z] at hc; revert hc; decide
    rw [splitOn_miss 10 c t h10, e]
    rw [e] at ih
    intro x hx
    rcases List.mem_cons.mp hx with rfl | hx
    · exact lin_one hc (ih h (by simp))
    · exact ih x (List.mem_cons_of_mem _ hx)
  | @word w t hw ht p ih =>
    obtain ⟨h, tl, e⟩ := splitOn_cons 10 t
    rw [splitOn_pre e w fun d hd => ((gw_ok w hw).2 d hd).2.1]
    have hs := split_HS e ht
    rw [e] at ih
    intro x hx
    rcases List.mem_cons.mp hx with rfl | hx
    · exact lin_word (gw_okw w hw) hs (ih h (by simp))
    · exact ih x (List.mem_cons_of_mem _ hx)
theorem lines_ok : ∀ (num : Nat) (ls : List S), (∀ x ∈ ls, Lin x) → (linesW num ls).2 = false
  | _, [], _ => rfl
  | num, x :: r, h => by
    unfold linesW
    rw [if_neg (by rw [h x (by simp) num x 0 rfl]; decide)]
    exact lines_ok (num + 1) r fun y hy => h y (List.mem_cons_of_mem _ hy)
theorem W_end {t : S} (p : LX t) : ∃ ds, W t = ds ++ [endW (splitOn 10 t)] := by
  refine ⟨(linesW 0 (splitOn 10 t)).1, ?_⟩
  unfold W allW
  rw [if_neg (by rw [lines_ok 0 _ (LX_lines p)]; decide)]
/-! ### put together -/
/-- the last sign -/
def lastOk (last : S) (r : S) : Prop := last = [] ∨ (∃ c, last.getLast? = some c ∧ c ∉ SGN) ∨ HS r
def Bld (t last : S) : Prop := ∀ r, LX r → lastOk last r → LX (t ++ r)
theorem bld_nil : Bld [] [] := fun r p _ => p
theorem lx_w {w r : S} (hw : w ∈ GALL) (p : LX r) (h : lastOk w r) : LX (w ++ r) := by
  rcases List.mem_append.mp hw with hw | hw
  · refine .word hw ?_ p
    rcases h with h | ⟨c, h1, h2⟩ | h
    · exact absurd h (gw_ok w hw).1
    · have : ∀ w ∈ GW, ∀ c, w.getLast? = some c → c ∈ SGN := by
        have key : ∀ w ∈ GW, (match w.getLast? with
          | some c => decide (c ∈ SGN)
          | none => true) = true := by decide
        intro w hw c hc
        have := key w hw
        rw [hc] at this
        exact of_decide_eq_true this
      exact absurd (this w hw c h1) h2
    · exact h
  · obtain ⟨c, hc, rfl⟩ := List.mem_map.mp hw
    exact .one hc p
theorem LX_join : ∀ ws : List S, (∀ w ∈ ws, w ∈ GALL) → LX (joinS [32] ws)
  | [], _ => .nil
  | [x], h => by
    have := lx_w (h x (by simp)) .nil (.inr (.inr (.inl rfl)))
    rwa [List.append_nil] at this
  | x :: y :: r, h => by
    have ih := LX_join (y :: r) fun w hw => h w (List.mem_cons_of_mem _ hw)
    show LX (x ++ [32] ++ joinS [32] (y :: r))
    rw [List.append_assoc]
    exact lx_w (h x (by simp)) (.sp ih) (.inr (.inr (.inr ⟨32, _, rfl, by decide⟩)))
/-- blanks, line ends, remarks -/
inductive Gp : S → Prop
  | nl : Gp [10]
  | rem : Gp [32, 35, 32, 120, 32, 61, 32, 55, 59, 10]
  | two : Gp [32, 32]
  | nls : Gp [10, 10, 32, 32]
  | cm : Gp [32, 35, 10]
  | one : Gp [32]
theorem gp_lx {g r : S} (g1 : Gp g) (p : LX r) : LX (g ++ r) ∧ HS (g ++ r) := by
  have h32 : (32 : Nat) ∉ SGN := by decide
  have h10 : (10 : Nat) ∉ SGN := by decide
  cases g1 with
  | nl => exact ⟨.nl p, .inr ⟨10, _, rfl, h10⟩⟩
  | rem => exact ⟨.sp (.cm (z := [32, 120, 32, 61, 32, 55, 59]) (by decide) p), .inr ⟨32, _, rfl, h32⟩⟩
  | two => exact ⟨.sp (.sp p), .inr ⟨32, _, rfl, h32⟩⟩
  | nls => exact ⟨.nl (.nl (.sp (.sp p))), .inr ⟨10, _, rfl, h10⟩⟩
  | cm => exact ⟨.sp (.cm (z := []) (by decide) p), .inr ⟨32, _, rfl, h32⟩⟩
  | one => exact ⟨.sp p, .inr ⟨32, _, rfl, h32⟩⟩
/-- a word more -/
theorem bld_step {t last g w : S} (b : Bld t last) (hw : w ∈ GALL) (hg : Gp g ∨ (g = [] ∧ (last = [] ∨ (∃ c, last.getLast? = some c ∧ c ∉ SGN) ∨ ∃ c, w.head? = some c ∧ c ∉ SGN))) : Bld (t ++ g ++ w) w := fun r p h => by
  have p1 := lx_w hw p h
  rw [List.append_assoc, List.append_assoc]
  rcases hg with hg | ⟨rfl, hg⟩
  · have := gp_lx hg p1
    exact b _ this.1 (.inr (.inr this.2))
  · refine b _ p1 ?_
    rcases hg with hg | hg | ⟨c, hc, hs⟩
    · exact .inl hg
    · exact .inr (.inl hg)
    · refine .inr (.inr (.inr ?_))
      cases w with
      | nil => cases hc
      | cons d w' => injection hc with hc; subst hc; exact ⟨d, w' ++ r, rfl, hs⟩
/-- the end -/
theorem bld_end {t last e : S} (b : Bld t last) (he : e ∈ ([[], [], [10], [32], [32, 35, 32, 116, 104, 101, 32, 101, 110, 100], [35]] : List S)) : LX (t ++ e) := by
  have h32 : (32 : Nat) ∉ SGN := by decide
  have h10 : (10 : Nat) ∉ SGN := by decide
  have h35 : (35 : Nat) ∉ SGN := by decide
  simp only [List.mem_cons, List.not_mem_nil, or_false] at he
  rcases he with rfl | rfl | rfl | rfl | rfl | rfl
  · exact b _ .nil (.inr (.inr (.inl rfl)))
  · exact b _ .nil (.inr (.inr (.inl rfl)))
  · exact b _ (.nl .nil) (.inr (.inr (.inr ⟨_, _, rfl, h10⟩)))
  · exact b _ (.sp .nil) (.inr (.inr (.inr ⟨_, _, rfl, h32⟩)))
  · exact b _ (.sp (.ce (z := [32, 116, 104, 101, 32, 101, 110, 100]) (by decide))) (.inr (.inr (.inr ⟨_, _, rfl, h32⟩)))
  · exact b _ (.ce (z := []) (by decide)) (.inr (.inr (.inr ⟨_, _, rfl, h35⟩)))
end HD
end

section
set_option linter.all false
set_option maxRecDepth 100000
set_option maxHeartbeats 1000000
/-! MQ5: loose texts. -/
namespace HD
open MI
variable {G : List D → Hs → Res D} {n : Nat}
/-- the last sign is a sign of words -/
def wEnd (w : S) : Bool := match w.getLast? with
  | some c => alnum c || c == 95
  | none => false
def wBeg (w : S) : Bool := match w.head? with
  | some c => alnum c || c == 95
  | none => false
theorem gall_ok : ∀ w ∈ GALL, w ≠ [] ∧ (∀ c ∈ w, c < 128) ∧ (wEnd w = false → ∃ c, w.getLast? = some c ∧ c ∉ SGN) ∧ (wBeg w = false → ∃ c, w.head? = some c ∧ c ∉ SGN) := by
  have key : ∀ w ∈ GALL, w ≠ [] ∧ (∀ c ∈ w, c < 128) ∧ (wEnd w = false → (match w.getLast? with
    | some c => decide (c ∉ SGN)
    | none => false) = true) ∧ (wBeg w = false → (match w.head? with
    | some c => decide (c ∉ SGN)
    | none => false) = true) := by decide
  intro w hw
  obtain ⟨h1, h2, h3, h4⟩ := key w hw
  refine ⟨h1, h2, fun e => ?_, fun e => ?_⟩
  · have := h3 e
    cases el : w.getLast? with
    | none => rw [el] at this; cases this
    | some c => rw [el] at this; exact ⟨c, rfl, of_decide_eq_true this⟩
  · have := h4 e
    cases el : w.head? with
    | none => rw [el] at this; cases this
    | some c => rw [el] at this; exact ⟨c, rfl, of_decide_eq_true this⟩
theorem alOr_T {κ : Orc} {σ : Env} {h : Hs} {i c : Nat} {ie : IE} {x : S} {j : Int} {B : Bool → Hs → Prop} (hσ : σ[i]? = some (some (.str x))) (he : ∀ Q : D → Hs → Prop, (evE κ ie σ h).T Q = Q (.int j) h) (hi : index (.str x) (.int j) h = some (.str [c])) (hc : c < 128) :
    (evB κ (.or (.mt .isalnum (.ix (.v i) ie) .nil) (.cmp .eq (.ix (.v i) ie) (.c (.str [95])))) σ h).T B = B (alnum c || c == 95) h := by
  rw [TB_or, TB_of, TE_mt, TE_ix, TE_v]
  have em : method .isalnum (.str [c]) [] h = .ok (.bl (alnum c)) h := by
    show (if [c].all (· < 128) then Res.ok (D.bl (![c].isEmpty && [c].all alnum)) h else .stuck) = _
    rw [if_pos (by simpa using hc)]
    simp
  refine propext ⟨?_, ?_⟩
  · rintro ⟨d, e, q⟩
    rw [hσ] at e
    cases e
    rw [he] at q
    obtain ⟨d, e, q⟩ := q
    rw [hi] at e
    cases e
    obtain ⟨_, q⟩ := q
    rw [TEs_nil, em] at q
    obtain ⟨k, e, q⟩ := q
    cases e
    cases ha : alnum c with
    | true => rw [ha, if_pos rfl] at q; exact q
    | false =>
      rw [ha, if_neg (by decide), TB_cmp, TE_ix, TE_v] at q
      obtain ⟨d, e, q⟩ := q
      rw [hσ] at e
      cases e
      rw [he] at q
      obtain ⟨d, e, q⟩ := q
      rw [hi] at e
      cases e
      rw [TE_c] at q
      obtain ⟨k, e, q⟩ := q
      rw [eq_strs, one_eq] at e
      cases e
      exact q
  · intro q
    refine ⟨_, hσ, ?_⟩
    rw [he]
    refine ⟨_, hi, rfl, ?_⟩
    rw [TEs_nil, em]
    refine ⟨_, rfl, ?_⟩
    cases ha : alnum c with
    | true => rw [if_pos rfl]; rw [ha] at q; exact q
    | false =>
      rw [if_neg (by decide), TB_cmp, TE_ix, TE_v]
      refine ⟨_, hσ, ?_⟩
      rw [he]
      refine ⟨_, hi, ?_⟩
      rw [TE_c]
      refine ⟨_, eq_strs, ?_⟩
      rw [one_eq]
      rw [ha] at q
      exact q
theorem ix_last {x : S} {c : Nat} {h : Hs} (e : x.getLast? = some c) : index (.str x) (.int (-1)) h = some (.str [c]) := by
  have hx : x ≠ [] := fun z => by rw [z] at e; cases e
  have hl : 1 ≤ x.length := by cases x with
    | nil => exact absurd rfl hx
    | cons _ _ => simp
  rw [List.getLast?_eq_getElem?] at e
  have ek : ixN x.length (-1) = some (x.length - 1) := by
    unfold ixN
    rw [if_neg (by decide)]
    show (if 1 ≤ x.length then some (x.length - 1) else none) = _
    rw [if_pos hl]
  simp only [index, ek, e]
  rfl
theorem ix_first {x : S} {c : Nat} {h : Hs} (e : x.head? = some c) : index (.str x) (.int 0) h = some (.str [c]) := by
  cases x with
  | nil => cases e
  | cons d r => injection e with e; subst e; exact index_str (k := 0) (by simp)
theorem gap_T {p q c : Nat} {h : Hs} {last w : S} (P : Pen p q c h) (hc : c + 2 < 1000000000000) (hl : last = [] ∨ last ∈ GALL) (hw : w ∈ GALL) : (run (Pg G) (n + 3) 24 [.ref p, .str last, .str w] h).T fun d h' => Pen p q (c + 2) h' ∧ Up p h h' ∧ ∃ g, d = .str g ∧ g.length ≤ 10 ∧ (Gp g ∨ (g = [] ∧ (last = [] ∨ (∃ c, last.getLast? = some c ∧ c ∉ SGN) ∨ ∃ c, w.head? = some c ∧ c ∉ SGN))) := by
  refine run_T rfl rfl ?_
  show (exSs _ f24 [some (.ref p), some (.str last), some (.str w), none, none] h).T _ _ _ _
  unfold f24
  rw [T_cons, T_asg]
  -- close
  have close : (evE (⟨run (Pg G) (n + 2), itω⟩ : Orc) (.or (.cmp .eq (.v 1) (.c (.str []))) (.or (.not (.or (.mt .isalnum (.ix (.v 1) (.neg (.c (.int (1))))) .nil) (.cmp .eq (.ix (.v 1) (.neg (.c (.int (1))))) (.c (.str [95]))))) (.not (.or (.mt .isalnum (.ix (.v 2) (.c (.int (0)))) .nil) (.cmp .eq (.ix (.v 2) (.c (.int (0)))) (.c (.str [95]))))))) [some (.ref p), some (.str last), some (.str w), none, none] h).T fun d h' => h' = h ∧ ∃ b, d = .bl b ∧ (b = true → last = [] ∨ (∃ c, last.getLast? = some c ∧ c ∉ SGN) ∨ ∃ c, w.head? = some c ∧ c ∉ SGN) := by
    rw [TE_or, TE_cmp, TE_v]
    refine ⟨_, rfl, ?_⟩
    rw [TE_c]
    refine ⟨_, eq_strs, _, rfl, ?_⟩
    by_cases hn : last = []
    · rw [if_pos (by rw [hn]; rfl)]
      exact ⟨rfl, _, rfl, fun _ => .inl hn⟩
    · rw [if_neg (fun z => hn (eq_of_beq z))]
      have hla : last ∈ GALL := hl.resolve_left hn
      obtain ⟨h1, h2, h3, h4⟩ := gall_ok last hla
      obtain ⟨k1, k2, k3, k4⟩ := gall_ok w hw
      obtain ⟨c1, e1⟩ : ∃ c, last.getLast? = some c := by
        cases e : last.getLast? with
        | none => rw [List.getLast?_eq_none_iff] at e; exact absurd e hn
        | some c => exact ⟨c, rfl⟩
      obtain ⟨c2, e2⟩ : ∃ c, w.head? = some c := by
        cases w with
        | nil => exact absurd rfl k1
        | cons c r => exact ⟨c, rfl⟩
      have m1 : c1 < 128 := h2 c1 (List.mem_of_getLast? e1)
      have m2 : c2 < 128 := k2 c2 (List.mem_of_mem_head? e2)
      have n1 : wEnd last = (alnum c1 || c1 == 95) := by unfold wEnd; rw [e1]
      have n2 : wBeg w = (alnum c2 || c2 == 95) := by unfold wBeg; rw [e2]
      rw [TE_or, TE_not, alOr_T (x := last) (j := -1) (c := c1) rfl (fun Q => by rw [TE_neg, TE_c]; exact propext ⟨fun ⟨i, e, q⟩ => by cases e; exact q, fun q => ⟨_, rfl, q⟩⟩) (ix_last e1) m1, ← n1]
      refine ⟨_, rfl, ?_⟩
      cases hw1 : wEnd last with
      | false => rw [Bool.not_false, if_pos rfl]; exact ⟨rfl, _, rfl, fun _ => .inr (.inl (h3 hw1))⟩
      | true =>
        rw [Bool.not_true, if_neg (by decide), TE_not, alOr_T (x := w) (j := 0) (c := c2) rfl (fun Q => TE_c) (ix_first e2) m2, ← n2]
        exact ⟨rfl, _, rfl, fun z => .inr (.inr (k4 (by simpa using z)))⟩
  refine close.mono fun d h1 ⟨e, b, e2, hb⟩ => ?_
  subst e e2
  simp -implicitDefEqProofs only [TE_c, TE_v, TE_tup, TE_lst, TE_dct, TE_bin, TE_cmp, TE_ite, TE_and, TE_or, TE_not, TE_neg, TE_ix, TE_sl, TO_none, TO_some, TE_call, TE_bi, TE_mt, TE_isi, TEs_nil, TEs_cons, TKV_nil, TKV_cons, TI_seq, TI_rng1, TI_rng2, TT_nm, TT_tp, TT_sub, TTs_nil, TTs_cons, TB_cmp, TB_isi, TB_not, TB_and, TB_or, TB_ite, TC_nil, TC_cons, Res.T_ok, List.getElem?_cons_succ, List.getElem?_cons_zero, List.set_cons_succ, List.set_cons_zero, Option.some.injEq, exists_eq_left', D.int.injEq, D.str.injEq, D.bl.injEq, D.tup.injEq]
  rw [T_cons, T_asg]
  simp -implicitDefEqProofs only [TE_c, TE_v, TE_tup, TE_lst, TE_dct, TE_bin, TE_cmp, TE_ite, TE_and, TE_or, TE_not, TE_neg, TE_ix, TE_sl, TO_none, TO_some, TE_call, TE_bi, TE_mt, TE_isi, TEs_nil, TEs_cons, TKV_nil, TKV_cons, TI_seq, TI_rng1, TI_rng2, TT_nm, TT_tp, TT_sub, TTs_nil, TTs_cons, TB_cmp, TB_isi, TB_not, TB_and, TB_or, TB_ite, TC_nil, TC_cons, Res.T_ok, List.getElem?_cons_succ, List.getElem?_cons_zero, List.set_cons_succ, List.set_cons_zero, Option.some.injEq, exists_eq_left', D.int.injEq, D.str.injEq, D.bl.injEq, D.tup.injEq]
  refine (draw_T (n := n + 1) P (by omega) 9 (by decide) (by decide)).mono fun d h2 ⟨P2, U2, j, j0, j1, e⟩ => ?_
  subst e
  rw [T_cons, T_iff, TB_cmp]
  simp -implicitDefEqProofs only [TE_c, TE_v, TE_tup, TE_lst, TE_dct, TE_bin, TE_cmp, TE_ite, TE_and, TE_or, TE_not, TE_neg, TE_ix, TE_sl, TO_none, TO_some, TE_call, TE_bi, TE_mt, TE_isi, TEs_nil, TEs_cons, TKV_nil, TKV_cons, TI_seq, TI_rng1, TI_rng2, TT_nm, TT_tp, TT_sub, TTs_nil, TTs_cons, TB_cmp, TB_isi, TB_not, TB_and, TB_or, TB_ite, TC_nil, TC_cons, Res.T_ok, List.getElem?_cons_succ, List.getElem?_cons_zero, List.set_cons_succ, List.set_cons_zero, Option.some.injEq, exists_eq_left', D.int.injEq, D.str.injEq, D.bl.injEq, D.tup.injEq]
  refine ⟨_, cmp_eqi, ?_⟩
  by_cases hz : j = 0
  · rw [if_pos (by rw [hz]; rfl), T_cons, T_ret]
    simp -implicitDefEqProofs only [TE_c, TE_v, TE_tup, TE_lst, TE_dct, TE_bin, TE_cmp, TE_ite, TE_and, TE_or, TE_not, TE_neg, TE_ix, TE_sl, TO_none, TO_some, TE_call, TE_bi, TE_mt, TE_isi, TEs_nil, TEs_cons, TKV_nil, TKV_cons, TI_seq, TI_rng1, TI_rng2, TT_nm, TT_tp, TT_sub, TTs_nil, TTs_cons, TB_cmp, TB_isi, TB_not, TB_and, TB_or, TB_ite, TC_nil, TC_cons, Res.T_ok, List.getElem?_cons_succ, List.getElem?_cons_zero, List.set_cons_succ, List.set_cons_zero, Option.some.injEq, exists_eq_left', D.int.injEq, D.str.injEq, D.bl.injEq, D.tup.injEq]
    exact ⟨P2.mono (by omega), U2, by decide, .inl .nl⟩
  rw [if_neg (fun z => hz (eq_of_beq z)), T_nil, T_cons, T_iff, TB_cmp]
  simp -implicitDefEqProofs only [TE_c, TE_v, TE_tup, TE_lst, TE_dct, TE_bin, TE_cmp, TE_ite, TE_and, TE_or, TE_not, TE_neg, TE_ix, TE_sl, TO_none, TO_some, TE_call, TE_bi, TE_mt, TE_isi, TEs_nil, TEs_cons, TKV_nil, TKV_cons, TI_seq, TI_rng1, TI_rng2, TT_nm, TT_tp, TT_sub, TTs_nil, TTs_cons, TB_cmp, TB_isi, TB_not, TB_and, TB_or, TB_ite, TC_nil, TC_cons, Res.T_ok, List.getElem?_cons_succ, List.getElem?_cons_zero, List.set_cons_succ, List.set_cons_zero, Option.some.injEq, exists_eq_left', D.int.injEq, D.str.injEq, D.bl.injEq, D.tup.injEq]
  refine ⟨_, cmp_eqi, ?_⟩
  by_cases hz1 : j = 1
  · rw [if_pos (by rw [hz1]; rfl), T_cons, T_ret]
    simp -implicitDefEqProofs only [TE_c, TE_v, TE_tup, TE_lst, TE_dct, TE_bin, TE_cmp, TE_ite, TE_and, TE_or, TE_not, TE_neg, TE_ix, TE_sl, TO_none, TO_some, TE_call, TE_bi, TE_mt, TE_isi, TEs_nil, TEs_cons, TKV_nil, TKV_cons, TI_seq, TI_rng1, TI_rng2, TT_nm, TT_tp, TT_sub, TTs_nil, TTs_cons, TB_cmp, TB_isi, TB_not, TB_and, TB_or, TB_ite, TC_nil, TC_cons, Res.T_ok, List.getElem?_cons_succ, List.getElem?_cons_zero, List.set_cons_succ, List.set_cons_zero, Option.some.injEq, exists_eq_left', D.int.injEq, D.str.injEq, D.bl.injEq, D.tup.injEq]
    have hp2 := P2.lt
    refine ⟨le4, ?_⟩
    refine (pickL_T (n := n) P2.app (by omega) (List.getElem?_concat_length ..) (by omega) (by decide) (by decide)).mono fun d h' ⟨P3, U3, hd⟩ => ?_
    have hg : ∃ g, d = .str g ∧ g.length ≤ 10 ∧ Gp g := by
      simp only [List.mem_cons, List.not_mem_nil, or_false] at hd
      rcases hd with rfl | rfl | rfl | rfl
      · exact ⟨_, rfl, by decide, .rem⟩
      · exact ⟨_, rfl, by decide, .two⟩
      · exact ⟨_, rfl, by decide, .nls⟩
      · exact ⟨_, rfl, by decide, .cm⟩
    obtain ⟨g, rfl, gl, gg⟩ := hg
    exact ⟨P3, (U2.trans Up.app).trans U3, g, rfl, gl, .inl gg⟩
  rw [if_neg (fun z => hz1 (eq_of_beq z)), T_nil, T_cons, T_ret]
  rw [TE_ite, TB_and, TB_of, TE_v]
  refine ⟨_, rfl, b, rfl, ?_⟩
  cases hbb : b with
  | false =>
    rw [if_neg (by decide), if_neg (by decide), TE_c]
    exact ⟨P2.mono (by omega), U2, _, rfl, by decide, .inl .one⟩
  | true =>
    rw [if_pos rfl, TB_cmp]
    simp -implicitDefEqProofs only [TE_c, TE_v, TE_tup, TE_lst, TE_dct, TE_bin, TE_cmp, TE_ite, TE_and, TE_or, TE_not, TE_neg, TE_ix, TE_sl, TO_none, TO_some, TE_call, TE_bi, TE_mt, TE_isi, TEs_nil, TEs_cons, TKV_nil, TKV_cons, TI_seq, TI_rng1, TI_rng2, TT_nm, TT_tp, TT_sub, TTs_nil, TTs_cons, TB_cmp, TB_isi, TB_not, TB_and, TB_or, TB_ite, TC_nil, TC_cons, Res.T_ok, List.getElem?_cons_succ, List.getElem?_cons_zero, List.set_cons_succ, List.set_cons_zero, Option.some.injEq, exists_eq_left', D.int.injEq, D.str.injEq, D.bl.injEq, D.tup.injEq]
    refine ⟨_, cmp_lt, ?_⟩
    by_cases h4 : j < 4
    · rw [if_pos (decide_eq_true h4)]
      exact ⟨P2.mono (by omega), U2, by decide, .inr ⟨trivial, hb hbb⟩⟩
    · rw [if_neg (fun z => h4 (of_decide_eq_true z))]
      exact ⟨P2.mono (by omega), U2, by decide, .inl .one⟩
end HD
end

section
set_option linter.all false
set_option maxRecDepth 100000
set_option maxHeartbeats 1000000
/-! MQ6: loose texts, whole. -/
namespace HD
open MI
variable {G : List D → Hs → Res D} {n : Nat}
theorem loosew_T {p q c k m : Nat} {h : Hs} {ws : List S} (P : Pen p q c h) (hc : c + 2 * m < 1000000000000) (hk : h[k]? = some (.lst (ws.map .str))) (hkp : k ≠ p) (hw : ∀ w ∈ ws, w ∈ GALL) (hm : ws.length ≤ m) (hm2 : m ≤ 20000) :
    (run (Pg G) (n + 4) 25 [.ref p, .ref k] h).T fun d h' => Pen p q (c + 2 * m) h' ∧ Up p h h' ∧ ∃ t last, d = .str t ∧ Bld t last ∧ t.length ≤ 16 * m := by
  refine run_T rfl rfl ?_
  show (exSs _ f25 [some (.ref p), some (.ref k), none, none, none] h).T _ _ _ _
  unfold f25
  rw [T_cons, T_asg]
  simp -implicitDefEqProofs only [TE_c, TE_v, TE_tup, TE_lst, TE_dct, TE_bin, TE_cmp, TE_ite, TE_and, TE_or, TE_not, TE_neg, TE_ix, TE_sl, TO_none, TO_some, TE_call, TE_bi, TE_mt, TE_isi, TEs_nil, TEs_cons, TKV_nil, TKV_cons, TI_seq, TI_rng1, TI_rng2, TT_nm, TT_tp, TT_sub, TTs_nil, TTs_cons, TB_cmp, TB_isi, TB_not, TB_and, TB_or, TB_ite, TC_nil, TC_cons, Res.T_ok, List.getElem?_cons_succ, List.getElem?_cons_zero, List.set_cons_succ, List.set_cons_zero, Option.some.injEq, exists_eq_left', D.int.injEq, D.str.injEq, D.bl.injEq, D.tup.injEq]
  refine ⟨le2, rfl, ?_⟩
  rw [T_cons]
  generalize hσ : [some (D.ref p), some (D.ref k), none, some (D.str []), some (D.str [])] = σ0
  refine T_forD (fun i σ h' => Pen p q (c + 2 * i) h' ∧ Up p h h' ∧ h'[k]? = some (.lst (ws.map .str)) ∧ ∃ (s2 : Option D) (t last : S), σ = [some (.ref p), some (.ref k), s2, some (.str t), some (.str last)] ∧ Bld t last ∧ (last = [] ∨ last ∈ GALL) ∧ t.length ≤ 16 * i) k (ws.map .str) ?_ ?_ ?_ ?_
  · subst hσ
    simp -implicitDefEqProofs only [TE_c, TE_v, TE_tup, TE_lst, TE_dct, TE_bin, TE_cmp, TE_ite, TE_and, TE_or, TE_not, TE_neg, TE_ix, TE_sl, TO_none, TO_some, TE_call, TE_bi, TE_mt, TE_isi, TEs_nil, TEs_cons, TKV_nil, TKV_cons, TI_seq, TI_rng1, TI_rng2, TT_nm, TT_tp, TT_sub, TTs_nil, TTs_cons, TB_cmp, TB_isi, TB_not, TB_and, TB_or, TB_ite, TC_nil, TC_cons, Res.T_ok, List.getElem?_cons_succ, List.getElem?_cons_zero, List.set_cons_succ, List.set_cons_zero, Option.some.injEq, exists_eq_left', D.int.injEq, D.str.injEq, D.bl.injEq, D.tup.injEq]
    refine ⟨.dyn k, by simp only [srcOf, seqOf, hk], rfl, by simp only [seqOf, hk], P, Up.refl, hk, none, [], [], rfl, bld_nil, .inl rfl, by simp⟩
  · rintro i σ h' ⟨_, _, hk', _⟩
    simp only [seqOf, hk']
  · rintro i d σ h' hd ⟨P', U', hk', s2, t, last, rfl, hb, hl, htl⟩
    obtain ⟨w, hw1, rfl⟩ := List.mem_map.mp (List.mem_of_getElem? hd)
    have hi := (List.getElem?_eq_some_iff.mp hd).1
    rw [List.length_map] at hi
    have hwg := hw w hw1
    have lw := len_g w hwg
    simp -implicitDefEqProofs only [TE_c, TE_v, TE_tup, TE_lst, TE_dct, TE_bin, TE_cmp, TE_ite, TE_and, TE_or, TE_not, TE_neg, TE_ix, TE_sl, TO_none, TO_some, TE_call, TE_bi, TE_mt, TE_isi, TEs_nil, TEs_cons, TKV_nil, TKV_cons, TI_seq, TI_rng1, TI_rng2, TT_nm, TT_tp, TT_sub, TTs_nil, TTs_cons, TB_cmp, TB_isi, TB_not, TB_and, TB_or, TB_ite, TC_nil, TC_cons, Res.T_ok, List.getElem?_cons_succ, List.getElem?_cons_zero, List.set_cons_succ, List.set_cons_zero, Option.some.injEq, exists_eq_left', D.int.injEq, D.str.injEq, D.bl.injEq, D.tup.injEq]
    rw [T_cons, T_asg]
    simp -implicitDefEqProofs only [TE_c, TE_v, TE_tup, TE_lst, TE_dct, TE_bin, TE_cmp, TE_ite, TE_and, TE_or, TE_not, TE_neg, TE_ix, TE_sl, TO_none, TO_some, TE_call, TE_bi, TE_mt, TE_isi, TEs_nil, TEs_cons, TKV_nil, TKV_cons, TI_seq, TI_rng1, TI_rng2, TT_nm, TT_tp, TT_sub, TTs_nil, TTs_cons, TB_cmp, TB_isi, TB_not, TB_and, TB_or, TB_ite, TC_nil, TC_cons, Res.T_ok, List.getElem?_cons_succ, List.getElem?_cons_zero, List.set_cons_succ, List.set_cons_zero, Option.some.injEq, exists_eq_left', D.int.injEq, D.str.injEq, D.bl.injEq, D.tup.injEq, binop]
    refine (gap_T (n := n) P' (by omega) hl hwg).mono fun d h2 ⟨P2, U2, g, e, gl, hg⟩ => ?_
    subst e
    simp only [TA_str, List.length_append]
    have b16 : t.length ≤ 400000 := by omega
    refine ⟨by show _ ≤ 16777216; omega, by show _ ≤ 16777216; omega, le2, rfl, ?_⟩
    rw [T_nil]
    exact ⟨P2.mono (by omega), U'.trans U2, U2.at hk' hkp, _, _, _, rfl, bld_step hb hwg hg, .inr hwg, by simp only [List.length_append]; omega⟩
  · rintro σ h' ⟨P', U', hk', s2, t, last, rfl, hb, hl, htl⟩
    rw [List.length_map] at P' htl
    rw [T_cons, T_ret]
    simp -implicitDefEqProofs only [TE_c, TE_v, TE_tup, TE_lst, TE_dct, TE_bin, TE_cmp, TE_ite, TE_and, TE_or, TE_not, TE_neg, TE_ix, TE_sl, TO_none, TO_some, TE_call, TE_bi, TE_mt, TE_isi, TEs_nil, TEs_cons, TKV_nil, TKV_cons, TI_seq, TI_rng1, TI_rng2, TT_nm, TT_tp, TT_sub, TTs_nil, TTs_cons, TB_cmp, TB_isi, TB_not, TB_and, TB_or, TB_ite, TC_nil, TC_cons, Res.T_ok, List.getElem?_cons_succ, List.getElem?_cons_zero, List.set_cons_succ, List.set_cons_zero, Option.some.injEq, exists_eq_left', D.int.injEq, D.str.injEq, D.bl.injEq, D.tup.injEq]
    exact ⟨P'.mono (by omega), U', _, _, rfl, hb, by omega⟩
theorem cut_dropL {α : Type} {xs : List α} {m : Nat} : (cut xs (some (m : Int)) none).length = xs.length - m := by
  unfold cut cl
  simp only [List.length_drop, List.length_take]
  rw [if_pos (by omega), Int.toNat_natCast]
  omega
theorem loose_T (hG : GOk G) {p q c : Nat} {h : Hs} {d : D} (P : Pen p q c h) (hc : c + 50000 < 1000000000000) (b : BookT d) :
    (run (Pg G) (n + 5) 26 [.ref p, d] h).T fun d h' => Pen p q (c + 50000) h' ∧ Up p h h' ∧ ∃ t, d = .str t ∧ LX t ∧ t.length ≤ 400000 := by
  obtain ⟨ps, ths, as, rfl, hps, hpl, hth, htl, has, hal⟩ := b
  refine run_T rfl rfl ?_
  show (exSs _ f26 [some (.ref p), some (.tup [.tup (ps.map .str), .tup ths, .tup as]), none, none, none] h).T _ _ _ _
  unfold f26
  have hp := P.lt
  rw [T_cons, T_asg]
  simp -implicitDefEqProofs only [TE_c, TE_v, TE_tup, TE_lst, TE_dct, TE_bin, TE_cmp, TE_ite, TE_and, TE_or, TE_not, TE_neg, TE_ix, TE_sl, TO_none, TO_some, TE_call, TE_bi, TE_mt, TE_isi, TEs_nil, TEs_cons, TKV_nil, TKV_cons, TI_seq, TI_rng1, TI_rng2, TT_nm, TT_tp, TT_sub, TTs_nil, TTs_cons, TB_cmp, TB_isi, TB_not, TB_and, TB_or, TB_ite, TC_nil, TC_cons, Res.T_ok, List.getElem?_cons_succ, List.getElem?_cons_zero, List.set_cons_succ, List.set_cons_zero, Option.some.injEq, exists_eq_left', D.int.injEq, D.str.injEq, D.bl.injEq, D.tup.injEq, builtin, biList]
  refine ⟨le0, _, rfl, ?_⟩
  simp only [new, Res.T_ok]
  refine ⟨le2, rfl, ?_⟩
  rw [T_cons]
  generalize hσ : [some (D.ref p), some (D.tup [D.tup (List.map D.str ps), D.tup ths, D.tup as]), some (D.ref (List.length h)), some (D.ref (List.length (h ++ [MO.lst []]))), none] = σ0
  refine T_whl rfl (fun σ h' => ∃ (s4 : Option D) (kw kp : Nat) (ws ps' : List S), σ = [some (.ref p), some (.tup [.tup (ps.map .str), .tup ths, .tup as]), some (.ref kw), some (.ref kp), s4] ∧ Pen p q (c + (ps.length - ps'.length)) h' ∧ Up p h h' ∧ kw ≠ p ∧ kp ≠ p ∧ h'[kw]? = some (.lst (ws.map .str)) ∧ h'[kp]? = some (.lst (ps'.map .str)) ∧
      (∀ w ∈ ws, w ∈ GALL) ∧ ws.length ≤ 400 * (ps.length - ps'.length) ∧ Nms ps' ∧ ps'.length ≤ ps.length)
    (fun σ h => match σ with
      | [_, _, _, some (.ref kp), _] => (match h[kp]? with
        | some (.lst ds) => ds.length
        | _ => 0)
      | _ => 0) ?_ ?_
  · subst hσ
    refine ⟨_, _, _, [], ps, rfl, P.app.app.mono (by omega), Up.app.trans Up.app, by omega, by rw [List.length_append]; omega, ?_, List.getElem?_concat_length .., by simp, by simp, hps, Nat.le_refl _⟩
    rw [List.getElem?_append_left (by simp)]; exact List.getElem?_concat_length ..
  · rintro σ h1 ⟨s4, kw, kp, ws, ps', rfl, P1, U1, hwp, hpp, hkw, hkp, hwg, hwl, hps', hpl'⟩
    have hkwl := (List.getElem?_eq_some_iff.mp hkw).1
    have hkpl := (List.getElem?_eq_some_iff.mp hkp).1
    rw [TB_cmp]
    simp -implicitDefEqProofs only [TE_c, TE_v, TE_tup, TE_lst, TE_dct, TE_bin, TE_cmp, TE_ite, TE_and, TE_or, TE_not, TE_neg, TE_ix, TE_sl, TO_none, TO_some, TE_call, TE_bi, TE_mt, TE_isi, TEs_nil, TEs_cons, TKV_nil, TKV_cons, TI_seq, TI_rng1, TI_rng2, TT_nm, TT_tp, TT_sub, TTs_nil, TTs_cons, TB_cmp, TB_isi, TB_not, TB_and, TB_or, TB_ite, TC_nil, TC_cons, Res.T_ok, List.getElem?_cons_succ, List.getElem?_cons_zero, List.set_cons_succ, List.set_cons_zero, Option.some.injEq, exists_eq_left', D.int.injEq, D.str.injEq, D.bl.injEq, D.tup.injEq]
    refine ⟨le0, ?_⟩
    have hkp1 : (h1 ++ [MO.lst []])[kp]? = some (.lst (ps'.map .str)) := by rw [List.getElem?_append_left hkpl]; exact hkp
    have hkw1 : (h1 ++ [MO.lst []])[kw]? = some (.lst (ws.map .str)) := by rw [List.getElem?_append_left hkwl]; exact hkw
    refine ⟨_, ne_nil hkp1 (List.getElem?_concat_length ..), ?_⟩
    have P2 : Pen p q _ (h1 ++ [MO.lst []]) := P1.app
    have U2 : Up p h (h1 ++ [MO.lst []]) := U1.trans Up.app
    have hm1 : (match h1[kp]? with
        | some (.lst ds) => ds.length
        | _ => 0) = ps'.length := by rw [hkp]; exact List.length_map ..
    simp only [hm1]
    generalize h1 ++ [MO.lst []] = h2 at hkp1 hkw1 P2 U2
    cases hpe : ps'.isEmpty with
    | true =>
      rw [Bool.not_true, if_neg (by decide)]
      have hp0 : ps' = [] := by cases ps' with
        | nil => rfl
        | cons _ _ => cases hpe
      subst hp0
      -- behind the loop
      rw [T_cons, T_asg]
      simp -implicitDefEqProofs only [TE_c, TE_v, TE_tup, TE_lst, TE_dct, TE_bin, TE_cmp, TE_ite, TE_and, TE_or, TE_not, TE_neg, TE_ix, TE_sl, TO_none, TO_some, TE_call, TE_bi, TE_mt, TE_isi, TEs_nil, TEs_cons, TKV_nil, TKV_cons, TI_seq, TI_rng1, TI_rng2, TT_nm, TT_tp, TT_sub, TTs_nil, TTs_cons, TB_cmp, TB_isi, TB_not, TB_and, TB_or, TB_ite, TC_nil, TC_cons, Res.T_ok, List.getElem?_cons_succ, List.getElem?_cons_zero, List.set_cons_succ, List.set_cons_zero, Option.some.injEq, exists_eq_left', D.int.injEq, D.str.injEq, D.bl.injEq, D.tup.injEq, binop]
      refine ⟨le0, _, rfl, _, rfl, le3, ?_⟩
      refine (printed_T (n := n + 1) (ps := []) (by simp [Nms]) (by simp) hth htl has hal h2).mono fun d h3 ⟨⟨g, e1⟩, t, e2, hp, htl⟩ => ?_
      subst e1 e2
      refine (partedP_T (n := n + 3) hG hp htl (by omega) _).mono fun d h3 ⟨k, e, hk, ⟨g2, hg⟩, ws2, hws2, hwl2, hwg2⟩ => ?_
      subst e
      have hkw3 : h3[kw]? = some (.lst (ws.map .str)) := by
        rw [hg, List.append_assoc, List.getElem?_append_left (List.getElem?_eq_some_iff.mp hkw1).1]; exact hkw1
      have P3 : Pen p q (c + (ps.length - 0)) h3 := by rw [hg]; exact P2.app.app
      have U3 : Up p h h3 := by rw [hg]; exact (U2.trans Up.app).trans Up.app
      refine add_ref hkw3 hws2 (by rw [List.length_map, List.length_map]; show _ ≤ 16777216; simp at hwl; omega) ?_
      rw [T_cons, T_ret]
      simp -implicitDefEqProofs only [TE_c, TE_v, TE_tup, TE_lst, TE_dct, TE_bin, TE_cmp, TE_ite, TE_and, TE_or, TE_not, TE_neg, TE_ix, TE_sl, TO_none, TO_some, TE_call, TE_bi, TE_mt, TE_isi, TEs_nil, TEs_cons, TKV_nil, TKV_cons, TI_seq, TI_rng1, TI_rng2, TT_nm, TT_tp, TT_sub, TTs_nil, TTs_cons, TB_cmp, TB_isi, TB_not, TB_and, TB_or, TB_ite, TC_nil, TC_cons, Res.T_ok, List.getElem?_cons_succ, List.getElem?_cons_zero, List.set_cons_succ, List.set_cons_zero, Option.some.injEq, exists_eq_left', D.int.injEq, D.str.injEq, D.bl.injEq, D.tup.injEq, binop]
      have hws : (h3 ++ [MO.lst (ws.map D.str ++ ws2.map D.str)])[h3.length]? = some (.lst ((ws ++ ws2).map .str)) := by
        rw [List.map_append]; exact List.getElem?_concat_length ..
      have hp3 := P3.lt
      refine (loosew_T (n := n) (m := 18000) P3.app (by omega) hws (by omega) (fun w hw => (List.mem_append.mp hw).elim (hwg w) (hwg2 w)) (by rw [List.length_append]; simp at hwl; omega) (by omega)).mono fun d h4 ⟨P4, U4, t4, last, e, hb4, htl4⟩ => ?_
      subst e
      have hp4 := P4.lt
      refine ⟨le6, ?_⟩
      refine (pickL_T (n := n + 2) P4.app (by omega) (List.getElem?_concat_length ..) (by omega) (by decide) (by decide)).mono fun d h5 ⟨P5, U5, hd⟩ => ?_
      have he : ∃ e ∈ ([[], [], [10], [32], [32, 35, 32, 116, 104, 101, 32, 101, 110, 100], [35]] : List S), d = .str e := by
        simp only [List.mem_cons, List.not_mem_nil, or_false] at hd
        rcases hd with rfl | rfl | rfl | rfl | rfl | rfl
        · exact ⟨_, by simp, rfl⟩
        · exact ⟨_, by simp, rfl⟩
        · exact ⟨[10], by simp, rfl⟩
        · exact ⟨[32], by simp, rfl⟩
        · exact ⟨[32, 35, 32, 116, 104, 101, 32, 101, 110, 100], by simp, rfl⟩
        · exact ⟨[35], by simp, rfl⟩
      obtain ⟨e, he, rfl⟩ := he
      have hel : e.length ≤ 10 := by
        have : ∀ e ∈ ([[], [], [10], [32], [32, 35, 32, 116, 104, 101, 32, 101, 110, 100], [35]] : List S), e.length ≤ 10 := by decide
        exact this e he
      simp only [TA_str]
      refine ⟨by show _ ≤ 16777216; omega, P5.mono (by omega), (((U3.trans Up.app).trans U4).trans Up.app).trans U5, _, rfl, bld_end hb4 he, by rw [List.length_append]; omega⟩
    | false =>
      rw [Bool.not_false, if_pos rfl]
      have hpos : 1 ≤ ps'.length := by cases ps' with
        | nil => cases hpe
        | cons _ _ => simp
      rw [T_cons, T_asg]
      simp -implicitDefEqProofs only [TE_c, TE_v, TE_tup, TE_lst, TE_dct, TE_bin, TE_cmp, TE_ite, TE_and, TE_or, TE_not, TE_neg, TE_ix, TE_sl, TO_none, TO_some, TE_call, TE_bi, TE_mt, TE_isi, TEs_nil, TEs_cons, TKV_nil, TKV_cons, TI_seq, TI_rng1, TI_rng2, TT_nm, TT_tp, TT_sub, TTs_nil, TTs_cons, TB_cmp, TB_isi, TB_not, TB_and, TB_or, TB_ite, TC_nil, TC_cons, Res.T_ok, List.getElem?_cons_succ, List.getElem?_cons_zero, List.set_cons_succ, List.set_cons_zero, Option.some.injEq, exists_eq_left', D.int.injEq, D.str.injEq, D.bl.injEq, D.tup.injEq, binop, builtin, biLen, hkp1]
      rw [List.length_map]
      refine (draw_T (n := n + 3) P2 (by omega) (ps'.length : Int) (by omega) (by omega)).mono fun d h3 ⟨P3, U3, j, j0, j1, e⟩ => ?_
      subst e
      obtain ⟨jn, rfl⟩ : ∃ jn : Nat, j = (jn : Int) := ⟨j.toNat, by omega⟩
      simp only [add_ii, Res.T_ok]
      have ej : (1 : Int) + (jn : Int) = ((1 + jn : Nat) : Int) := by omega
      rw [ej]
      have hkp3 := U3.at hkp1 hpp
      have hkw3 := U3.at hkw1 hwp
      have U23 := U2.trans U3
      rw [T_cons, T_asg]
      simp -implicitDefEqProofs only [TE_c, TE_v, TE_tup, TE_lst, TE_dct, TE_bin, TE_cmp, TE_ite, TE_and, TE_or, TE_not, TE_neg, TE_ix, TE_sl, TO_none, TO_some, TE_call, TE_bi, TE_mt, TE_isi, TEs_nil, TEs_cons, TKV_nil, TKV_cons, TI_seq, TI_rng1, TI_rng2, TT_nm, TT_tp, TT_sub, TTs_nil, TTs_cons, TB_cmp, TB_isi, TB_not, TB_and, TB_or, TB_ite, TC_nil, TC_cons, Res.T_ok, List.getElem?_cons_succ, List.getElem?_cons_zero, List.set_cons_succ, List.set_cons_zero, Option.some.injEq, exists_eq_left', D.int.injEq, D.str.injEq, D.bl.injEq, D.tup.injEq, binop]
      refine ⟨rfl, slice_ref hkp3 ?_⟩
      rw [cut_strs]
      show (mtJoin (.str [44, 32]) [.ref h3.length] _).T _
      unfold mtJoin
      simp only [seqOf, List.getElem?_concat_length]
      have hcn : Nms (cut ps' none (some ((1 + jn : Nat) : Int))) := fun w hw => hps' w (cut_mem w hw)
      have hcl : (cut ps' none (some ((1 + jn : Nat) : Int))).length ≤ 5 := Nat.le_trans cut_len (by omega)
      generalize cut ps' none (some ((1 + jn : Nat) : Int)) = pc at hcn hcl
      have hle : ∀ t ∈ pc, t.length ≤ 5 := fun t ht => len_n t (hcn t ht)
      refine joinIf_T hle (by show _ + _ * 2 ≤ _; exact L_le (by omega)) ?_
      have hj1 := joinS_len (sep := [44, 32]) pc hle
      have hj : (joinS [44, 32] pc).length ≤ 40 := Nat.le_trans hj1 (by show pc.length * 7 ≤ 40; omega)
      simp only [TA_str, List.length_append, List.length_cons, List.length_nil]
      refine ⟨L_le (by omega), L_le (by omega), ?_⟩
      refine (partedP_T (n := n + 3) (m := 50) hG (pt_cl (places_cl hcn)) (by simp only [List.length_append, List.length_cons, List.length_nil]; omega) (by omega) _).mono fun d h4 ⟨k, e, hk, ⟨g2, hg⟩, ws2, hws2, hwl2, hwg2⟩ => ?_
      subst e
      have hkp4 : h4[kp]? = some (.lst (ps'.map .str)) := by
        rw [hg, List.append_assoc, List.getElem?_append_left (List.getElem?_eq_some_iff.mp hkp3).1]; exact hkp3
      have hkw4 : h4[kw]? = some (.lst (ws.map .str)) := by
        rw [hg, List.append_assoc, List.getElem?_append_left (List.getElem?_eq_some_iff.mp hkw3).1]; exact hkw3
      have P4 : Pen p q (c + (ps.length - ps'.length) + 1) h4 := by rw [hg]; exact P3.app.app
      have U4 : Up p h h4 := by rw [hg]; exact (U23.trans Up.app).trans Up.app
      have hp4 := P4.lt
      refine add_ref hkw4 hws2 (by rw [List.length_map, List.length_map]; show _ ≤ 16777216; omega) ?_
      have hkp5 : (h4 ++ [MO.lst (ws.map D.str ++ ws2.map D.str)])[kp]? = some (.lst (ps'.map .str)) := by rw [List.getElem?_append_left (List.getElem?_eq_some_iff.mp hkp4).1]; exact hkp4
      refine slice_ref hkp5 ?_
      rw [cut_strs]
      have hdl : (cut ps' (some ((1 + jn : Nat) : Int)) none).length = ps'.length - (1 + jn) := cut_dropL
      refine ⟨L_le (by decide), rfl, ?_⟩
      rw [T_nil]
      refine ⟨⟨_, _, _, ws ++ ws2, cut ps' (some ((1 + jn : Nat) : Int)) none, rfl, P4.app.app.mono (by omega), (U4.trans Up.app).trans Up.app, by omega, by rw [List.length_append]; omega, ?_, List.getElem?_concat_length .., fun w hw => (List.mem_append.mp hw).elim (hwg w) (hwg2 w), by rw [List.length_append]; omega, fun w hw => hps' w (cut_mem w hw), by omega⟩, ?_⟩
      · rw [List.map_append, List.getElem?_append_left (by simp)]; exact List.getElem?_concat_length ..
      · show (match (h4 ++ [MO.lst (ws.map D.str ++ ws2.map D.str)] ++ [MO.lst ((cut ps' (some ((1 + jn : Nat) : Int)) none).map D.str)])[(h4 ++ [MO.lst (ws.map D.str ++ ws2.map D.str)]).length]? with
          | some (.lst ds) => ds.length
          | _ => 0) < _
        rw [List.getElem?_concat_length]
        show ((cut ps' (some ((1 + jn : Nat) : Int)) none).map D.str).length < _
        rw [List.length_map, hdl]
        omega
end HD
end

section
set_option linter.all false
set_option maxRecDepth 100000
set_option maxHeartbeats 1000000
/-! MQ7: spoilt texts; what the law looks at. -/
namespace HD
open MI
variable {G : List D → Hs → Res D} {n : Nat}
def SIGNS : List S := [[95], [33], [61], [58], [62], [9], [48], [49, 50], [35], [10], [32], [97], [90, 57], [44], [46], List.replicate 13 120, List.replicate 13 49, [49, 48], [45], [61, 62], [123], [124], List.replicate 12 97, List.replicate 12 98, [61, 61], [112, 108, 97, 99, 101], [114, 97], [60], [116, 104, 114, 101, 97, 100], [46, 46]]
theorem signs_len : ∀ s ∈ SIGNS, s.length ≤ 13 := by decide
theorem mul13 {c : Nat} {h : Hs} : mulD (.str [c]) (.int 13) h = .ok (.str (List.replicate 13 c)) h := rfl
theorem mul12 {c : Nat} {h : Hs} : mulD (.str [c]) (.int 12) h = .ok (.str (List.replicate 12 c)) h := rfl
theorem cut_takeL {α : Type} {xs : List α} {m : Nat} : (cut xs none (some (m : Int))).length = min m xs.length := by
  unfold cut cl
  simp only [List.length_drop, List.length_take]
  rw [if_pos (by omega), Int.toNat_natCast]
  omega
theorem spoilt_T {p q c : Nat} {h : Hs} {x : S} (P : Pen p q c h) (hc : c + 3 < 1000000000000) (hx : x.length ≤ 1000000) :
    (run (Pg G) (n + 3) 28 [.ref p, .str x] h).T fun d h' => Pen p q (c + 3) h' ∧ Up p h h' ∧ ∃ t, d = .str t ∧ t.length ≤ x.length + 13 := by
  refine run_T rfl rfl ?_
  show (exSs _ f28 [some (.ref p), some (.str x), none, none, none] h).T _ _ _ _
  unfold f28
  rw [T_cons, T_asg]
  simp -implicitDefEqProofs only [TE_c, TE_v, TE_tup, TE_lst, TE_dct, TE_bin, TE_cmp, TE_ite, TE_and, TE_or, TE_not, TE_neg, TE_ix, TE_sl, TO_none, TO_some, TE_call, TE_bi, TE_mt, TE_isi, TEs_nil, TEs_cons, TKV_nil, TKV_cons, TI_seq, TI_rng1, TI_rng2, TT_nm, TT_tp, TT_sub, TTs_nil, TTs_cons, TB_cmp, TB_isi, TB_not, TB_and, TB_or, TB_ite, TC_nil, TC_cons, Res.T_ok, List.getElem?_cons_succ, List.getElem?_cons_zero, List.set_cons_succ, List.set_cons_zero, Option.some.injEq, exists_eq_left', D.int.injEq, D.str.injEq, D.bl.injEq, D.tup.injEq, binop, builtin, biLen, add_ii]
  refine (draw_T (n := n + 1) P (by omega) ((x.length : Int) + 1) (by omega) (by omega)).mono fun d h1 ⟨P1, U1, j, j0, j1, e⟩ => ?_
  subst e
  refine (draw_T (n := n + 1) P1 (by omega) 4 (by decide) (by decide)).mono fun d h2 ⟨P2, U2, w, w0, w1, e⟩ => ?_
  subst e
  have U12 := U1.trans U2
  refine ⟨le2, rfl, ?_⟩
  rw [T_cons, T_asg]
  simp -implicitDefEqProofs only [TE_c, TE_v, TE_tup, TE_lst, TE_dct, TE_bin, TE_cmp, TE_ite, TE_and, TE_or, TE_not, TE_neg, TE_ix, TE_sl, TO_none, TO_some, TE_call, TE_bi, TE_mt, TE_isi, TEs_nil, TEs_cons, TKV_nil, TKV_cons, TI_seq, TI_rng1, TI_rng2, TT_nm, TT_tp, TT_sub, TTs_nil, TTs_cons, TB_cmp, TB_isi, TB_not, TB_and, TB_or, TB_ite, TC_nil, TC_cons, Res.T_ok, List.getElem?_cons_succ, List.getElem?_cons_zero, List.set_cons_succ, List.set_cons_zero, Option.some.injEq, exists_eq_left', D.int.injEq, D.str.injEq, D.bl.injEq, D.tup.injEq, binop, mul13, mul12]
  refine ⟨L_le (by decide), ?_⟩
  have hp2 := P2.lt
  refine (pickL_T (n := n) (ds := SIGNS.map .str) P2.app (by omega) (List.getElem?_concat_length ..) (by omega) (by decide) (by decide)).mono fun d h3 ⟨P3, U3, hd⟩ => ?_
  obtain ⟨s, hs, rfl⟩ := List.mem_map.mp hd
  have hsl := signs_len s hs
  have U := (U12.trans Up.app).trans U3
  obtain ⟨jn, rfl⟩ : ∃ jn : Nat, j = (jn : Int) := ⟨j.toNat, by omega⟩
  have l1 : (cut x none (some (jn : Int))).length = min jn x.length := cut_takeL
  have l2 : (cut x (some (jn : Int)) none).length = x.length - jn := cut_dropL
  have l3 : (cut x (some ((jn : Int) + 1)) none).length = x.length - (jn + 1) := cut_dropL (m := jn + 1)
  have P4 := P3.mono (show c + 1 + 1 + 1 ≤ c + 3 by omega)
  rw [T_cons, T_iff, TB_cmp]
  simp -implicitDefEqProofs only [TE_c, TE_v, TE_tup, TE_lst, TE_dct, TE_bin, TE_cmp, TE_ite, TE_and, TE_or, TE_not, TE_neg, TE_ix, TE_sl, TO_none, TO_some, TE_call, TE_bi, TE_mt, TE_isi, TEs_nil, TEs_cons, TKV_nil, TKV_cons, TI_seq, TI_rng1, TI_rng2, TT_nm, TT_tp, TT_sub, TTs_nil, TTs_cons, TB_cmp, TB_isi, TB_not, TB_and, TB_or, TB_ite, TC_nil, TC_cons, Res.T_ok, List.getElem?_cons_succ, List.getElem?_cons_zero, List.set_cons_succ, List.set_cons_zero, Option.some.injEq, exists_eq_left', D.int.injEq, D.str.injEq, D.bl.injEq, D.tup.injEq]
  refine ⟨_, cmp_eqi, ?_⟩
  by_cases hz : w = 0
  · rw [if_pos (by rw [hz]; rfl), T_cons, T_ret]
    simp -implicitDefEqProofs only [TE_c, TE_v, TE_tup, TE_lst, TE_dct, TE_bin, TE_cmp, TE_ite, TE_and, TE_or, TE_not, TE_neg, TE_ix, TE_sl, TO_none, TO_some, TE_call, TE_bi, TE_mt, TE_isi, TEs_nil, TEs_cons, TKV_nil, TKV_cons, TI_seq, TI_rng1, TI_rng2, TT_nm, TT_tp, TT_sub, TTs_nil, TTs_cons, TB_cmp, TB_isi, TB_not, TB_and, TB_or, TB_ite, TC_nil, TC_cons, Res.T_ok, List.getElem?_cons_succ, List.getElem?_cons_zero, List.set_cons_succ, List.set_cons_zero, Option.some.injEq, exists_eq_left', D.int.injEq, D.str.injEq, D.bl.injEq, D.tup.injEq, binop, slice, add_ii, TA_str]
    exact ⟨by show _ ≤ 16777216; omega, P4, U, by rw [List.length_append]; omega⟩
  rw [if_neg (fun z => hz (eq_of_beq z)), T_nil, T_cons, T_iff, TB_cmp]
  simp -implicitDefEqProofs only [TE_c, TE_v, TE_tup, TE_lst, TE_dct, TE_bin, TE_cmp, TE_ite, TE_and, TE_or, TE_not, TE_neg, TE_ix, TE_sl, TO_none, TO_some, TE_call, TE_bi, TE_mt, TE_isi, TEs_nil, TEs_cons, TKV_nil, TKV_cons, TI_seq, TI_rng1, TI_rng2, TT_nm, TT_tp, TT_sub, TTs_nil, TTs_cons, TB_cmp, TB_isi, TB_not, TB_and, TB_or, TB_ite, TC_nil, TC_cons, Res.T_ok, List.getElem?_cons_succ, List.getElem?_cons_zero, List.set_cons_succ, List.set_cons_zero, Option.some.injEq, exists_eq_left', D.int.injEq, D.str.injEq, D.bl.injEq, D.tup.injEq]
  refine ⟨_, cmp_eqi, ?_⟩
  by_cases hz1 : w = 1
  · rw [if_pos (by rw [hz1]; rfl), T_cons, T_ret]
    simp -implicitDefEqProofs only [TE_c, TE_v, TE_tup, TE_lst, TE_dct, TE_bin, TE_cmp, TE_ite, TE_and, TE_or, TE_not, TE_neg, TE_ix, TE_sl, TO_none, TO_some, TE_call, TE_bi, TE_mt, TE_isi, TEs_nil, TEs_cons, TKV_nil, TKV_cons, TI_seq, TI_rng1, TI_rng2, TT_nm, TT_tp, TT_sub, TTs_nil, TTs_cons, TB_cmp, TB_isi, TB_not, TB_and, TB_or, TB_ite, TC_nil, TC_cons, Res.T_ok, List.getElem?_cons_succ, List.getElem?_cons_zero, List.set_cons_succ, List.set_cons_zero, Option.some.injEq, exists_eq_left', D.int.injEq, D.str.injEq, D.bl.injEq, D.tup.injEq, binop, slice, add_ii, TA_str, List.length_append]
    exact ⟨by show _ ≤ 16777216; omega, by show _ ≤ 16777216; omega, P4, U, by omega⟩
  · rw [if_neg (fun z => hz1 (eq_of_beq z)), T_nil, T_cons, T_ret]
    simp -implicitDefEqProofs only [TE_c, TE_v, TE_tup, TE_lst, TE_dct, TE_bin, TE_cmp, TE_ite, TE_and, TE_or, TE_not, TE_neg, TE_ix, TE_sl, TO_none, TO_some, TE_call, TE_bi, TE_mt, TE_isi, TEs_nil, TEs_cons, TKV_nil, TKV_cons, TI_seq, TI_rng1, TI_rng2, TT_nm, TT_tp, TT_sub, TTs_nil, TTs_cons, TB_cmp, TB_isi, TB_not, TB_and, TB_or, TB_ite, TC_nil, TC_cons, Res.T_ok, List.getElem?_cons_succ, List.getElem?_cons_zero, List.set_cons_succ, List.set_cons_zero, Option.some.injEq, exists_eq_left', D.int.injEq, D.str.injEq, D.bl.injEq, D.tup.injEq, binop, slice, add_ii, TA_str, List.length_append]
    exact ⟨by show _ ≤ 16777216; omega, by show _ ≤ 16777216; omega, P4, U, by omega⟩
/-! ### the two readers tell the same -/
theorem tok_plain {d : D} (t : Tok4 d) : plain d = true := by
  obtain ⟨a, b, i, j, rfl⟩ := t; rfl
theorem tok_dep {d : D} (t : Tok4 d) : dep d ≤ 1 := by
  obtain ⟨a, b, i, j, rfl⟩ := t; exact Nat.le_refl _
theorem tok_eqv {d : D} (t : Tok4 d) : eqv d d = true := by
  obtain ⟨a, b, i, j, rfl⟩ := t
  show ((a == a) && ((b == b) && ((i == i) && ((j == j) && true)))) = true
  simp
theorem toks_dep : ∀ ds : List D, (∀ d ∈ ds, Tok4 d) → deps ds ≤ 1
  | [], _ => Nat.zero_le _
  | d :: ds, h => by
    show max (dep d) (deps ds) ≤ 1
    have h1 := tok_dep (h d (by simp))
    have h2 := toks_dep ds fun x hx => h x (List.mem_cons_of_mem _ hx)
    omega
theorem toks_eqv : ∀ ds : List D, (∀ d ∈ ds, Tok4 d) → eqvs ds ds = true
  | [], _ => rfl
  | d :: ds, h => by
    show (eqv d d && eqvs ds ds) = true
    rw [tok_eqv (h d (by simp)), toks_eqv ds fun x hx => h x (List.mem_cons_of_mem _ hx)]
    rfl
theorem ne_toks {ds : List D} (h : ∀ d ∈ ds, Tok4 d) {hp : Hs} : cmpop .ne (.tup ds) (.tup ds) hp = some false := by
  show (eqB hp (.tup ds) (.tup ds)).map (!·) = _
  have e1 : ex hp (.tup ds) = some (.tup ds) := exT_plain (.tup ds) (plains_of ds fun d hd => tok_plain (h d hd))
  have hd := toks_dep ds h
  unfold eqB
  simp only [e1]
  rw [if_pos (show min (dep (.tup ds)) (dep (.tup ds)) ≤ 64 by show min (deps ds + 1) (deps ds + 1) ≤ 64; omega)]
  show (some (eqvs ds ds)).map (!·) = _
  rw [toks_eqv ds h]
  rfl
theorem tupleW_T {h : Hs} {k : Nat} {ds : List D} {Q : D → Hs → Prop} (hk : h[k]? = some (.lst ds)) (q : Q (.tup ds) h) : (builtin .tuple [.ref k] h).T Q := by
  show (match seqOf h k with
    | some x => Res.ok (D.tup x) h
    | none => .stuck).T Q
  simp only [seqOf, hk]
  exact q
/-- the law's look at a text: told != tuple(_law_words(text)) -/
theorem look_T {σ : Env} {h : Hs} {i j : Nat} {t : S} (hi : σ[i]? = some (some (.str t))) (hj : σ[j]? = some (some (.tup (W t)))) (ht : t.length ≤ 1048576) {B : Bool → Hs → Prop} (q : ∀ g, B false (h ++ g)) :
    (evB ⟨run (Pg G) (n + 2), itω⟩ (.cmp .ne (.v j) (.bi .tuple (.cons (.call 27 (.cons (.v i) .nil)) .nil))) σ h).T B := by
  rw [TB_cmp, TE_v]
  refine ⟨_, hj, ?_⟩
  rw [TE_bi, TEs_cons, TE_call, TEs_cons, TE_v]
  refine ⟨_, hi, ?_⟩
  rw [TEs_nil]
  refine (law_words_T (n := n) t ht h).mono fun d h' ⟨k, e, hk, g, hg⟩ => ?_
  subst e hg
  rw [TEs_nil]
  exact tupleW_T hk ⟨_, ne_toks (W_tok t), q g⟩
/-- told_ok(told) -/
theorem okay_T {σ : Env} {h : Hs} {j : Nat} {t : S} (hj : σ[j]? = some (some (.tup (W t)))) (ht : t.length ≤ 1048576) {B : Bool → Hs → Prop} (q : ∀ g, B false (h ++ g)) :
    (evB ⟨run (Pg G) (n + 2), itω⟩ (.not (.call 29 (.cons (.v j) .nil))) σ h).T B := by
  rw [TB_not, TB_of, TE_call, TEs_cons, TE_v]
  refine ⟨_, hj, ?_⟩
  rw [TEs_nil]
  have := W_len t
  refine (told_ok_T (n := n) (W t) (W_tok t) (by show _ ≤ 16777216; omega) h).mono fun d h' ⟨⟨g, hg⟩, e⟩ => ?_
  subst e hg
  exact ⟨true, rfl, q g⟩
/-! ### the words of a given text, reckoned -/
def lineF : Nat → Nat → S → Nat → List D × Bool
  | 0, _, _, _ => ([], false)
  | k + 1, num, x, a =>
    match x[a]? with
    | some c => if c = 35 then ([], false)
      else if c = 32 then lineF k num x (a + 1)
      else if (wfrom x a).1 = sBad then ([tk (wfrom x a) num a], true)
      else (tk (wfrom x a) num a :: (lineF k num x (a + max 1 (wfrom x a).2.length)).1, (lineF k num x (a + max 1 (wfrom x a).2.length)).2)
    | none => ([], false)
theorem lineF_eq (num : Nat) (x : S) : ∀ (k a : Nat), x.length - a < k → lineW num x a = lineF k num x a
  | k + 1, a, hk => by
    rw [lineW]
    unfold lineF
    by_cases h : a < x.length
    · rw [dif_pos h, List.getElem?_eq_getElem h]
      simp only
      rw [lineF_eq num x k (a + 1) (by omega), lineF_eq num x k (a + max 1 (wfrom x a).2.length) (by omega)]
    · rw [dif_neg h, List.getElem?_eq_none (by omega)]
def linesF : Nat → List S → List D × Bool
  | _, [] => ([], false)
  | num, x :: r => if (lineF (x.length + 1) num x 0).2 = true then (lineF (x.length + 1) num x 0) else ((lineF (x.length + 1) num x 0).1 ++ (linesF (num + 1) r).1, (linesF (num + 1) r).2)
theorem linesF_eq : ∀ (num : Nat) (ls : List S), linesW num ls = linesF num ls
  | _, [] => rfl
  | num, x :: r => by
    unfold linesW linesF
    rw [lineF_eq num x (x.length + 1) 0 (by omega), linesF_eq (num + 1) r]
def WF (t : S) : List D := if (linesF 0 (splitOn 10 t)).2 = true then (linesF 0 (splitOn 10 t)).1 else (linesF 0 (splitOn 10 t)).1 ++ [endW (splitOn 10 t)]
theorem W_eq (t : S) : W t = WF t := by
  unfold W allW WF
  rw [linesF_eq]
def sText : S := [116, 101, 120, 116]
theorem w1 : W [] = [.tup [.str sEnd, .str [], .int 0, .int 0]] := by rw [W_eq]; rfl
theorem w2 : W [97, 10, 32, 35, 32, 98] = [.tup [.str sName, .str [97], .int 0, .int 0], .tup [.str sEnd, .str [], .int 1, .int 4]] := by rw [W_eq]; rfl
theorem w3 : W [120, 32, 49] = [.tup [.str sName, .str [120], .int 0, .int 0], .tup [.str sNum, .str [49], .int 0, .int 2], .tup [.str sEnd, .str [], .int 0, .int 3]] := by rw [W_eq]; rfl
theorem w4 : W [116, 46, 114, 61, 48] = [.tup [.str sName, .str [116], .int 0, .int 0], .tup [.str sSign, .str [46], .int 0, .int 1], .tup [.str sName, .str [114], .int 0, .int 2], .tup [.str sSign, .str [61], .int 0, .int 3], .tup [.str sNum, .str [48], .int 0, .int 4], .tup [.str sEnd, .str [], .int 0, .int 5]] := by rw [W_eq]; rfl
theorem w5 : W [120, 32, 61, 32, 49, 48] = [.tup [.str sName, .str [120], .int 0, .int 0], .tup [.str sSign, .str [61], .int 0, .int 2], .tup [.str sBad, .str sWord, .int 0, .int 4]] := by rw [W_eq]; rfl
theorem w6 : W [49, 120] = [.tup [.str sNum, .str [49], .int 0, .int 0], .tup [.str sName, .str [120], .int 0, .int 1], .tup [.str sEnd, .str [], .int 0, .int 2]] := by rw [W_eq]; rfl
end HD
end

section
set_option linter.all false
set_option maxRecDepth 100000
set_option maxHeartbeats 1000000
/-! MQ8: the law. -/
namespace HD
open MI
variable {G : List D → Hs → Res D} {n : Nat}
theorem endW_ix {t : S} (p : LX t) (h : Hs) : ∃ d, index (.tup (W t)) (.int (-1)) h = some d ∧ index d (.int 0) h = some (.str sEnd) := by
  obtain ⟨ds, e⟩ := W_end p
  refine ⟨endW (splitOn 10 t), ?_, rfl⟩
  rw [e]
  have ek : ixN (ds ++ [endW (splitOn 10 t)]).length (-1) = some ds.length := by
    unfold ixN
    rw [if_neg (by decide)]
    show (if 1 ≤ (ds ++ [endW (splitOn 10 t)]).length then some ((ds ++ [endW (splitOn 10 t)]).length - 1) else none) = _
    rw [List.length_append, if_pos (by simp)]
    rfl
  show itemAt (ds ++ [endW (splitOn 10 t)]) (-1) = _
  unfold itemAt
  simp only [ek]
  exact List.getElem?_concat_length ..
theorem ne_strs {a b : S} {h : Hs} : cmpop .ne (.str a) (.str b) h = some (!(a == b)) := rfl
theorem law_T (hG : GOk G) (ns : List Int) : (run (Pg G) (n + 7) 30 [.lst (ns.map .int)] []).T fun d _ => d = .bl true := by
  refine run_T rfl rfl ?_
  show (exSs _ f30 [some (.lst (ns.map .int)), none, none, none, none, none, none, none, none, none] []).T _ _ _ _
  unfold f30
  rw [T_cons, T_asg]
  simp -implicitDefEqProofs only [TE_c, TE_v, TE_tup, TE_lst, TE_dct, TE_bin, TE_cmp, TE_ite, TE_and, TE_or, TE_not, TE_neg, TE_ix, TE_sl, TO_none, TO_some, TE_call, TE_bi, TE_mt, TE_isi, TEs_nil, TEs_cons, TKV_nil, TKV_cons, TI_seq, TI_rng1, TI_rng2, TT_nm, TT_tp, TT_sub, TTs_nil, TTs_cons, TB_cmp, TB_isi, TB_not, TB_and, TB_or, TB_ite, TC_nil, TC_cons, Res.T_ok, List.getElem?_cons_succ, List.getElem?_cons_zero, List.set_cons_succ, List.set_cons_zero, Option.some.injEq, exists_eq_left', D.int.injEq, D.str.injEq, D.bl.injEq, D.tup.injEq]
  refine (pen_T (n := n + 5) ns []).mono fun d h1 ⟨p, q, e, P1⟩ => ?_
  subst e
  rw [T_cons, T_asg]
  simp -implicitDefEqProofs only [TE_c, TE_v, TE_tup, TE_lst, TE_dct, TE_bin, TE_cmp, TE_ite, TE_and, TE_or, TE_not, TE_neg, TE_ix, TE_sl, TO_none, TO_some, TE_call, TE_bi, TE_mt, TE_isi, TEs_nil, TEs_cons, TKV_nil, TKV_cons, TI_seq, TI_rng1, TI_rng2, TT_nm, TT_tp, TT_sub, TTs_nil, TTs_cons, TB_cmp, TB_isi, TB_not, TB_and, TB_or, TB_ite, TC_nil, TC_cons, Res.T_ok, List.getElem?_cons_succ, List.getElem?_cons_zero, List.set_cons_succ, List.set_cons_zero, Option.some.injEq, exists_eq_left', D.int.injEq, D.str.injEq, D.bl.injEq, D.tup.injEq]
  refine (book_T (n := n) P1 (by omega)).mono fun tree h2 ⟨P2, _, hb⟩ => ?_
  rw [T_cons]
  generalize D.lst (ns.map .int) = SC
  refine T_for (fun i σ h => Pen p q (1000 + 60000 * i) h ∧ ∃ s3 s4 s5 s6 s7 s8 s9 : Option D, σ = [some SC, some (.ref p), some tree, s3, s4, s5, s6, s7, s8, s9]) (rngV 0 ((4 : Nat) : Int)) ?_ ?_ ?_
  · simp -implicitDefEqProofs only [TE_c, TE_v, TE_tup, TE_lst, TE_dct, TE_bin, TE_cmp, TE_ite, TE_and, TE_or, TE_not, TE_neg, TE_ix, TE_sl, TO_none, TO_some, TE_call, TE_bi, TE_mt, TE_isi, TEs_nil, TEs_cons, TKV_nil, TKV_cons, TI_seq, TI_rng1, TI_rng2, TT_nm, TT_tp, TT_sub, TTs_nil, TTs_cons, TB_cmp, TB_isi, TB_not, TB_and, TB_or, TB_ite, TC_nil, TC_cons, Res.T_ok, List.getElem?_cons_succ, List.getElem?_cons_zero, List.set_cons_succ, List.set_cons_zero, Option.some.injEq, exists_eq_left', D.int.injEq, D.str.injEq, D.bl.injEq, D.tup.injEq]
    exact ⟨_, rangeS_nat (m := 4) (by decide), rfl, P2.mono (by omega), _, _, _, _, _, _, _, rfl⟩
  · rintro i d σ h3 hd ⟨P3, s3, s4, s5, s6, s7, s8, s9, rfl⟩
    obtain ⟨hi, rfl⟩ := rngV_get hd
    simp -implicitDefEqProofs only [TE_c, TE_v, TE_tup, TE_lst, TE_dct, TE_bin, TE_cmp, TE_ite, TE_and, TE_or, TE_not, TE_neg, TE_ix, TE_sl, TO_none, TO_some, TE_call, TE_bi, TE_mt, TE_isi, TEs_nil, TEs_cons, TKV_nil, TKV_cons, TI_seq, TI_rng1, TI_rng2, TT_nm, TT_tp, TT_sub, TTs_nil, TTs_cons, TB_cmp, TB_isi, TB_not, TB_and, TB_or, TB_ite, TC_nil, TC_cons, Res.T_ok, List.getElem?_cons_succ, List.getElem?_cons_zero, List.set_cons_succ, List.set_cons_zero, Option.some.injEq, exists_eq_left', D.int.injEq, D.str.injEq, D.bl.injEq, D.tup.injEq]
    rw [T_cons, T_asg]
    have text : (evE (⟨run (Pg G) (n + 6), itω⟩ : Orc) (.ite (.cmp .gt (.v 3) (.c (.int (0)))) (.call 26 (.cons (.v 1) (.cons (.v 2) .nil))) (.call 23 (.cons (.v 2) .nil))) [some SC, some (.ref p), some tree, some (.int (i : Int)), s4, s5, s6, s7, s8, s9] h3).T fun d h' => ∃ t, d = .str t ∧ LX t ∧ t.length ≤ 400000 ∧ Pen p q (1000 + 60000 * i + 50000) h' := by
      simp -implicitDefEqProofs only [TE_c, TE_v, TE_tup, TE_lst, TE_dct, TE_bin, TE_cmp, TE_ite, TE_and, TE_or, TE_not, TE_neg, TE_ix, TE_sl, TO_none, TO_some, TE_call, TE_bi, TE_mt, TE_isi, TEs_nil, TEs_cons, TKV_nil, TKV_cons, TI_seq, TI_rng1, TI_rng2, TT_nm, TT_tp, TT_sub, TTs_nil, TTs_cons, TB_cmp, TB_isi, TB_not, TB_and, TB_or, TB_ite, TC_nil, TC_cons, Res.T_ok, List.getElem?_cons_succ, List.getElem?_cons_zero, List.set_cons_succ, List.set_cons_zero, Option.some.injEq, exists_eq_left', D.int.injEq, D.str.injEq, D.bl.injEq, D.tup.injEq]
      refine ⟨_, cmp_gt0, ?_⟩
      by_cases h0 : (0 : Int) < (i : Int)
      · rw [if_pos (decide_eq_true h0)]
        exact (loose_T (n := n + 1) hG P3 (by omega) hb).mono fun d h' ⟨P4, _, t, e, hl, ht⟩ => ⟨t, e, hl, ht, P4⟩
      · rw [if_neg (fun z => h0 (of_decide_eq_true z))]
        refine (textof_T (n := n + 2) hG hb h3).mono fun d h' ⟨⟨g, eg⟩, ws, e, hl, hg⟩ => ⟨_, e, LX_join ws hg, ?_, by rw [eg]; exact P3.app.mono (by omega)⟩
        have := joinS_len (sep := [32]) ws fun w hw => len_g w (hg w hw)
        exact Nat.le_trans this (by show ws.length * 7 ≤ 400000; omega)
    refine text.mono fun d h4 ⟨t, e, hlx, htl, P4⟩ => ?_
    subst e
    simp -implicitDefEqProofs only [TE_c, TE_v, TE_tup, TE_lst, TE_dct, TE_bin, TE_cmp, TE_ite, TE_and, TE_or, TE_not, TE_neg, TE_ix, TE_sl, TO_none, TO_some, TE_call, TE_bi, TE_mt, TE_isi, TEs_nil, TEs_cons, TKV_nil, TKV_cons, TI_seq, TI_rng1, TI_rng2, TT_nm, TT_tp, TT_sub, TTs_nil, TTs_cons, TB_cmp, TB_isi, TB_not, TB_and, TB_or, TB_ite, TC_nil, TC_cons, Res.T_ok, List.getElem?_cons_succ, List.getElem?_cons_zero, List.set_cons_succ, List.set_cons_zero, Option.some.injEq, exists_eq_left', D.int.injEq, D.str.injEq, D.bl.injEq, D.tup.injEq]
    rw [T_cons, T_asg]
    simp -implicitDefEqProofs only [TE_c, TE_v, TE_tup, TE_lst, TE_dct, TE_bin, TE_cmp, TE_ite, TE_and, TE_or, TE_not, TE_neg, TE_ix, TE_sl, TO_none, TO_some, TE_call, TE_bi, TE_mt, TE_isi, TEs_nil, TEs_cons, TKV_nil, TKV_cons, TI_seq, TI_rng1, TI_rng2, TT_nm, TT_tp, TT_sub, TTs_nil, TTs_cons, TB_cmp, TB_isi, TB_not, TB_and, TB_or, TB_ite, TC_nil, TC_cons, Res.T_ok, List.getElem?_cons_succ, List.getElem?_cons_zero, List.set_cons_succ, List.set_cons_zero, Option.some.injEq, exists_eq_left', D.int.injEq, D.str.injEq, D.bl.injEq, D.tup.injEq]
    refine (words_of_T (n := n + 1) t (by omega) h4).mono fun d h5 ⟨e1, e2⟩ => ?_
    subst e2
    have P5 : Pen p q (1000 + 60000 * i + 50000) h5 := by rw [e1]; exact P4.app
    rw [T_cons, T_iff, TB_or]
    refine look_T (n := n + 4) (t := t) rfl rfl (by omega) fun g => ?_
    rw [if_neg (by decide), TB_or]
    refine okay_T (n := n + 4) (t := t) rfl (by omega) fun g2 => ?_
    rw [if_neg (by decide), TB_cmp]
    simp -implicitDefEqProofs only [TE_c, TE_v, TE_tup, TE_lst, TE_dct, TE_bin, TE_cmp, TE_ite, TE_and, TE_or, TE_not, TE_neg, TE_ix, TE_sl, TO_none, TO_some, TE_call, TE_bi, TE_mt, TE_isi, TEs_nil, TEs_cons, TKV_nil, TKV_cons, TI_seq, TI_rng1, TI_rng2, TT_nm, TT_tp, TT_sub, TTs_nil, TTs_cons, TB_cmp, TB_isi, TB_not, TB_and, TB_or, TB_ite, TC_nil, TC_cons, Res.T_ok, List.getElem?_cons_succ, List.getElem?_cons_zero, List.set_cons_succ, List.set_cons_zero, Option.some.injEq, exists_eq_left', D.int.injEq, D.str.injEq, D.bl.injEq, D.tup.injEq]
    obtain ⟨dl, el, el2⟩ := endW_ix hlx (h5 ++ g ++ g2)
    refine ⟨_, el, _, el2, _, ne_strs, ?_⟩
    rw [if_neg (by decide), T_nil, T_cons]
    have P6 : Pen p q (1000 + 60000 * i + 50000) (h5 ++ g ++ g2) := P5.app.app
    generalize h5 ++ g ++ g2 = h6 at P6
    refine T_for (fun j σ h => Pen p q (1000 + 60000 * i + 50000 + 3 * j) h ∧ ∃ (t : S) (s7 s8 : Option D), t.length ≤ 400000 + 13 * j ∧ σ = [some SC, some (.ref p), some tree, some (.int (i : Int)), s4, s5, some (.str t), s7, s8, s9]) (rngV 0 ((3 : Nat) : Int)) ?_ ?_ ?_
    · simp -implicitDefEqProofs only [TE_c, TE_v, TE_tup, TE_lst, TE_dct, TE_bin, TE_cmp, TE_ite, TE_and, TE_or, TE_not, TE_neg, TE_ix, TE_sl, TO_none, TO_some, TE_call, TE_bi, TE_mt, TE_isi, TEs_nil, TEs_cons, TKV_nil, TKV_cons, TI_seq, TI_rng1, TI_rng2, TT_nm, TT_tp, TT_sub, TTs_nil, TTs_cons, TB_cmp, TB_isi, TB_not, TB_and, TB_or, TB_ite, TC_nil, TC_cons, Res.T_ok, List.getElem?_cons_succ, List.getElem?_cons_zero, List.set_cons_succ, List.set_cons_zero, Option.some.injEq, exists_eq_left', D.int.injEq, D.str.injEq, D.bl.injEq, D.tup.injEq]
      exact ⟨_, rangeS_nat (m := 3) (by decide), rfl, P6, t, _, _, by omega, rfl⟩
    · rintro j d σ h7 hd ⟨P7, t, s7, s8, htl, rfl⟩
      obtain ⟨hj, rfl⟩ := rngV_get hd
      simp -implicitDefEqProofs only [TE_c, TE_v, TE_tup, TE_lst, TE_dct, TE_bin, TE_cmp, TE_ite, TE_and, TE_or, TE_not, TE_neg, TE_ix, TE_sl, TO_none, TO_some, TE_call, TE_bi, TE_mt, TE_isi, TEs_nil, TEs_cons, TKV_nil, TKV_cons, TI_seq, TI_rng1, TI_rng2, TT_nm, TT_tp, TT_sub, TTs_nil, TTs_cons, TB_cmp, TB_isi, TB_not, TB_and, TB_or, TB_ite, TC_nil, TC_cons, Res.T_ok, List.getElem?_cons_succ, List.getElem?_cons_zero, List.set_cons_succ, List.set_cons_zero, Option.some.injEq, exists_eq_left', D.int.injEq, D.str.injEq, D.bl.injEq, D.tup.injEq]
      rw [T_cons, T_asg]
      simp -implicitDefEqProofs only [TE_c, TE_v, TE_tup, TE_lst, TE_dct, TE_bin, TE_cmp, TE_ite, TE_and, TE_or, TE_not, TE_neg, TE_ix, TE_sl, TO_none, TO_some, TE_call, TE_bi, TE_mt, TE_isi, TEs_nil, TEs_cons, TKV_nil, TKV_cons, TI_seq, TI_rng1, TI_rng2, TT_nm, TT_tp, TT_sub, TTs_nil, TTs_cons, TB_cmp, TB_isi, TB_not, TB_and, TB_or, TB_ite, TC_nil, TC_cons, Res.T_ok, List.getElem?_cons_succ, List.getElem?_cons_zero, List.set_cons_succ, List.set_cons_zero, Option.some.injEq, exists_eq_left', D.int.injEq, D.str.injEq, D.bl.injEq, D.tup.injEq]
      refine (spoilt_T (n := n + 3) P7 (by omega) (by omega)).mono fun d h8 ⟨P8, _, t2, e, htl2⟩ => ?_
      subst e
      rw [T_cons, T_asg]
      simp -implicitDefEqProofs only [TE_c, TE_v, TE_tup, TE_lst, TE_dct, TE_bin, TE_cmp, TE_ite, TE_and, TE_or, TE_not, TE_neg, TE_ix, TE_sl, TO_none, TO_some, TE_call, TE_bi, TE_mt, TE_isi, TEs_nil, TEs_cons, TKV_nil, TKV_cons, TI_seq, TI_rng1, TI_rng2, TT_nm, TT_tp, TT_sub, TTs_nil, TTs_cons, TB_cmp, TB_isi, TB_not, TB_and, TB_or, TB_ite, TC_nil, TC_cons, Res.T_ok, List.getElem?_cons_succ, List.getElem?_cons_zero, List.set_cons_succ, List.set_cons_zero, Option.some.injEq, exists_eq_left', D.int.injEq, D.str.injEq, D.bl.injEq, D.tup.injEq]
      refine (words_of_T (n := n + 1) t2 (by omega) h8).mono fun d h9 ⟨e1, e2⟩ => ?_
      subst e2
      have P9 : Pen p q (1000 + 60000 * i + 50000 + 3 * j + 3) h9 := by rw [e1]; exact P8.app
      rw [T_cons, T_iff, TB_or]
      refine look_T (n := n + 4) (t := t2) rfl rfl (by omega) fun g => ?_
      rw [if_neg (by decide)]
      refine okay_T (n := n + 4) (t := t2) rfl (by omega) fun g2 => ?_
      rw [if_neg (by decide), T_nil, T_nil]
      exact ⟨P9.app.app.mono (by omega), t2, _, _, by omega, rfl⟩
    · rintro σ h7 ⟨P7, t, s7, s8, htl, rfl⟩
      rw [rngV_len] at P7
      rw [T_nil]
      exact ⟨P7.mono (by omega), _, _, _, _, _, _, _, rfl⟩
  · rintro σ h3 ⟨P3, s3, s4, s5, s6, s7, s8, s9, rfl⟩
    rw [rngV_len] at P3
    rw [T_cons, T_asg]
    simp -implicitDefEqProofs only [TE_c, TE_v, TE_tup, TE_lst, TE_dct, TE_bin, TE_cmp, TE_ite, TE_and, TE_or, TE_not, TE_neg, TE_ix, TE_sl, TO_none, TO_some, TE_call, TE_bi, TE_mt, TE_isi, TEs_nil, TEs_cons, TKV_nil, TKV_cons, TI_seq, TI_rng1, TI_rng2, TT_nm, TT_tp, TT_sub, TTs_nil, TTs_cons, TB_cmp, TB_isi, TB_not, TB_and, TB_or, TB_ite, TC_nil, TC_cons, Res.T_ok, List.getElem?_cons_succ, List.getElem?_cons_zero, List.set_cons_succ, List.set_cons_zero, Option.some.injEq, exists_eq_left', D.int.injEq, D.str.injEq, D.bl.injEq, D.tup.injEq]
    refine ⟨rfl, ?_⟩
    obtain ⟨dm, h4, em, P4, _, m, m0, m1, e⟩ := (draw_T (G := G) (n := n + 5) P3 (by omega) 30 (by decide) (by decide)).ex
    subst e
    obtain ⟨mn, rfl⟩ : ∃ mn : Nat, m = (mn : Int) := ⟨m.toNat, by omega⟩
    generalize hσ : [some SC, some (D.ref p), some tree, s3, s4, s5, s6, s7, s8, s9] = σ0
    refine T_lcV (fun j acc h => Pen p q (300000 + j) h ∧ ∃ ts : List S, acc = ts.map .str ∧ ts.length = j ∧ ∀ t ∈ ts, t.length ≤ 5) (rngV 0 (mn : Int)) ?_ ?_ ?_
    · subst hσ
      simp -implicitDefEqProofs only [TE_c, TE_v, TE_tup, TE_lst, TE_dct, TE_bin, TE_cmp, TE_ite, TE_and, TE_or, TE_not, TE_neg, TE_ix, TE_sl, TO_none, TO_some, TE_call, TE_bi, TE_mt, TE_isi, TEs_nil, TEs_cons, TKV_nil, TKV_cons, TI_seq, TI_rng1, TI_rng2, TT_nm, TT_tp, TT_sub, TTs_nil, TTs_cons, TB_cmp, TB_isi, TB_not, TB_and, TB_or, TB_ite, TC_nil, TC_cons, Res.T_ok, List.getElem?_cons_succ, List.getElem?_cons_zero, List.set_cons_succ, List.set_cons_zero, Option.some.injEq, exists_eq_left', D.int.injEq, D.str.injEq, D.bl.injEq, D.tup.injEq]
      rw [em]
      exact ⟨_, rangeS_nat (by omega), rfl, P4.mono (by omega), [], rfl, rfl, by simp⟩
    · rintro j d acc h5 hd ⟨P5, ts, rfl, htl, hle⟩
      obtain ⟨hj, rfl⟩ := rngV_get hd
      subst hσ
      show (evT _ (.nm 9) (.int (j : Int)) [some SC, some (.ref p), some tree, s3, s4, s5, s6, s7, s8, none] _).T _
      simp -implicitDefEqProofs only [TE_c, TE_v, TE_tup, TE_lst, TE_dct, TE_bin, TE_cmp, TE_ite, TE_and, TE_or, TE_not, TE_neg, TE_ix, TE_sl, TO_none, TO_some, TE_call, TE_bi, TE_mt, TE_isi, TEs_nil, TEs_cons, TKV_nil, TKV_cons, TI_seq, TI_rng1, TI_rng2, TT_nm, TT_tp, TT_sub, TTs_nil, TTs_cons, TB_cmp, TB_isi, TB_not, TB_and, TB_or, TB_ite, TC_nil, TC_cons, Res.T_ok, List.getElem?_cons_succ, List.getElem?_cons_zero, List.set_cons_succ, List.set_cons_zero, Option.some.injEq, exists_eq_left', D.int.injEq, D.str.injEq, D.bl.injEq, D.tup.injEq, binop, builtin, biList, new]
      refine ⟨le4, ?_⟩
      have hp5 := P5.lt
      have P6 : Pen p q (300000 + j) (h5 ++ [MO.lst (chars [97, 98, 95, 48, 57, 32, 44, 59, 58, 61, 123, 125, 35, 10, 46])] ++ [MO.lst [D.str [97, 115, 107], D.str [116, 115, 111], D.str [115, 119, 97, 112], D.str [102, 101, 110, 99, 101]]]) := P5.app.app
      have e1 : (h5 ++ [MO.lst (chars [97, 98, 95, 48, 57, 32, 44, 59, 58, 61, 123, 125, 35, 10, 46])] ++ [MO.lst [D.str [97, 115, 107], D.str [116, 115, 111], D.str [115, 119, 97, 112], D.str [102, 101, 110, 99, 101]]])[h5.length]? = some (.lst (chars [97, 98, 95, 48, 57, 32, 44, 59, 58, 61, 123, 125, 35, 10, 46])) := by
        rw [List.getElem?_append_left (by simp)]; exact List.getElem?_concat_length ..
      refine add_ref e1 (List.getElem?_concat_length ..) (L_le (by decide)) ?_
      have hp6 := P6.lt
      refine (pickL_T (n := n + 4) (ds := ([[97], [98], [95], [48], [57], [32], [44], [59], [58], [61], [123], [125], [35], [10], [46], [97, 115, 107], [116, 115, 111], [115, 119, 97, 112], [102, 101, 110, 99, 101]] : List S).map .str) P6.app (by omega) (List.getElem?_concat_length ..) (by omega) (by decide) (by decide)).mono fun d h7 ⟨P7, _, hd⟩ => ?_
      obtain ⟨s, hs, rfl⟩ := List.mem_map.mp hd
      have hsl : ∀ s ∈ ([[97], [98], [95], [48], [57], [32], [44], [59], [58], [61], [123], [125], [35], [10], [46], [97, 115, 107], [116, 115, 111], [115, 119, 97, 112], [102, 101, 110, 99, 101]] : List S), s.length ≤ 5 := by decide
      rw [List.length_map]
      exact ⟨L_lt (by omega), P7, ts ++ [s], by simp, by simp [htl], sT_all hle (hsl s hs)⟩
    · rintro acc h5 ⟨P5, ts, rfl, htl, hle⟩
      rw [rngV_len] at htl
      show (mtJoin (.str []) [.ref h5.length] _).T _
      unfold mtJoin
      simp only [seqOf, List.getElem?_concat_length]
      refine joinIf_T hle (by rw [htl]; show mn * 5 + mn * 0 ≤ _; exact L_le (by omega)) ?_
      have hj1 := joinS_len (sep := []) ts hle
      have hj : (joinS [] ts).length ≤ 500 := Nat.le_trans hj1 (by rw [htl]; show mn * 5 ≤ 500; omega)
      generalize joinS [] ts = row at hj
      generalize h5 ++ [MO.lst (ts.map D.str)] = h6
      subst hσ
      rw [T_cons, T_iff, TB_cmp]
      simp -implicitDefEqProofs only [TE_c, TE_v, TE_tup, TE_lst, TE_dct, TE_bin, TE_cmp, TE_ite, TE_and, TE_or, TE_not, TE_neg, TE_ix, TE_sl, TO_none, TO_some, TE_call, TE_bi, TE_mt, TE_isi, TEs_nil, TEs_cons, TKV_nil, TKV_cons, TI_seq, TI_rng1, TI_rng2, TT_nm, TT_tp, TT_sub, TTs_nil, TTs_cons, TB_cmp, TB_isi, TB_not, TB_and, TB_or, TB_ite, TC_nil, TC_cons, Res.T_ok, List.getElem?_cons_succ, List.getElem?_cons_zero, List.set_cons_succ, List.set_cons_zero, Option.some.injEq, exists_eq_left', D.int.injEq, D.str.injEq, D.bl.injEq, D.tup.injEq]
      refine (words_of_T (n := n + 1) row (by omega) h6).mono fun d h7 ⟨e1, e2⟩ => ?_
      subst e2
      refine (law_words_T (n := n + 4) row (by omega) h7).mono fun d h8 ⟨k, e, hk, g, hg⟩ => ?_
      subst e hg
      refine tupleW_T hk ⟨_, ne_toks (W_tok row), ?_⟩
      rw [if_neg (by decide), T_nil, T_cons]
      generalize h7 ++ g = h9
      -- the odd values
      generalize hσ : [some SC, some (D.ref p), some tree, s3, some (D.str row), s5, s6, s7, s8, s9] = σ0
      have c1 : (h9 ++ [MO.lst [D.str [97]]] ++ [MO.dct [(D.str [97], D.int 1)]] ++ [MO.lst [D.non, D.int 5, D.bl true, D.ref h9.length, D.tup [D.str [97]], D.ref (h9 ++ [MO.lst [D.str [97]]]).length]])[h9.length]? = some (.lst [D.str [97]]) := by simp
      have c2 : (h9 ++ [MO.lst [D.str [97]]] ++ [MO.dct [(D.str [97], D.int 1)]] ++ [MO.lst [D.non, D.int 5, D.bl true, D.ref h9.length, D.tup [D.str [97]], D.ref (h9 ++ [MO.lst [D.str [97]]]).length]])[(h9 ++ [MO.lst [D.str [97]]]).length]? = some (.dct [(D.str [97], D.int 1)]) := by
        rw [List.getElem?_append_left (by simp)]; exact List.getElem?_concat_length ..
      have c3 : (h9 ++ [MO.lst [D.str [97]]] ++ [MO.dct [(D.str [97], D.int 1)]] ++ [MO.lst [D.non, D.int 5, D.bl true, D.ref h9.length, D.tup [D.str [97]], D.ref (h9 ++ [MO.lst [D.str [97]]]).length]])[(h9 ++ [MO.lst [D.str [97]]] ++ [MO.dct [(D.str [97], D.int 1)]]).length]? = some (.lst [D.non, D.int 5, D.bl true, D.ref h9.length, D.tup [D.str [97]], D.ref (h9 ++ [MO.lst [D.str [97]]]).length]) := List.getElem?_concat_length ..
      refine T_forD (fun j σ h => h = h9 ++ [MO.lst [D.str [97]]] ++ [MO.dct [(D.str [97], D.int 1)]] ++ [MO.lst [D.non, D.int 5, D.bl true, D.ref h9.length, D.tup [D.str [97]], D.ref (h9 ++ [MO.lst [D.str [97]]]).length]] ∧ ∃ s5 : Option D, σ = [some SC, some (D.ref p), some tree, s3, some (D.str row), s5, s6, s7, s8, s9]) (h9 ++ [MO.lst [D.str [97]]] ++ [MO.dct [(D.str [97], D.int 1)]]).length [D.non, D.int 5, D.bl true, D.ref h9.length, D.tup [D.str [97]], D.ref (h9 ++ [MO.lst [D.str [97]]]).length] ?_ ?_ ?_ ?_
      · subst hσ
        simp -implicitDefEqProofs only [TE_c, TE_v, TE_tup, TE_lst, TE_dct, TE_bin, TE_cmp, TE_ite, TE_and, TE_or, TE_not, TE_neg, TE_ix, TE_sl, TO_none, TO_some, TE_call, TE_bi, TE_mt, TE_isi, TEs_nil, TEs_cons, TKV_nil, TKV_cons, TI_seq, TI_rng1, TI_rng2, TT_nm, TT_tp, TT_sub, TTs_nil, TTs_cons, TB_cmp, TB_isi, TB_not, TB_and, TB_or, TB_ite, TC_nil, TC_cons, Res.T_ok, List.getElem?_cons_succ, List.getElem?_cons_zero, List.set_cons_succ, List.set_cons_zero, Option.some.injEq, exists_eq_left', D.int.injEq, D.str.injEq, D.bl.injEq, D.tup.injEq]
        refine ⟨L_le (by decide), L_le (by decide), rfl, le6, _, ?_, rfl, ?_, rfl, _, rfl⟩
        · show (match seqOf _ _ with
            | some _ => some (Src.dyn _)
            | none => none) = _
          simp only [seqOf]
          rw [show dput (D.str [97]) (D.int 1) [] = [(D.str [97], D.int 1)] from rfl, c3]
        · simp only [seqOf]
          rw [show dput (D.str [97]) (D.int 1) [] = [(D.str [97], D.int 1)] from rfl, c3]
      · rintro j σ h ⟨rfl, _⟩
        simp only [seqOf]
        rw [c3]
      · rintro j d σ h hd ⟨rfl, s5, rfl⟩
        have hm := List.mem_of_getElem? hd
        clear hd
        simp -implicitDefEqProofs only [TE_c, TE_v, TE_tup, TE_lst, TE_dct, TE_bin, TE_cmp, TE_ite, TE_and, TE_or, TE_not, TE_neg, TE_ix, TE_sl, TO_none, TO_some, TE_call, TE_bi, TE_mt, TE_isi, TEs_nil, TEs_cons, TKV_nil, TKV_cons, TI_seq, TI_rng1, TI_rng2, TT_nm, TT_tp, TT_sub, TTs_nil, TTs_cons, TB_cmp, TB_isi, TB_not, TB_and, TB_or, TB_ite, TC_nil, TC_cons, Res.T_ok, List.getElem?_cons_succ, List.getElem?_cons_zero, List.set_cons_succ, List.set_cons_zero, Option.some.injEq, exists_eq_left', D.int.injEq, D.str.injEq, D.bl.injEq, D.tup.injEq]
        generalize hH : h9 ++ [MO.lst [D.str [97]]] ++ [MO.dct [(D.str [97], D.int 1)]] ++ [MO.lst [D.non, D.int 5, D.bl true, D.ref h9.length, D.tup [D.str [97]], D.ref (h9 ++ [MO.lst [D.str [97]]]).length]] = H at c1 c2
        have ht : tyAny H d [.str] = some false := by
          simp only [List.mem_cons, List.not_mem_nil, or_false] at hm
          rcases hm with rfl | rfl | rfl | rfl | rfl | rfl
          · rfl
          · rfl
          · rfl
          · unfold tyAny tyOf; simp only [c1]; rfl
          · rfl
          · unfold tyAny tyOf; simp only [c2]; rfl
        rw [T_cons, T_iff, TB_cmp]
        simp -implicitDefEqProofs only [TE_c, TE_v, TE_tup, TE_lst, TE_dct, TE_bin, TE_cmp, TE_ite, TE_and, TE_or, TE_not, TE_neg, TE_ix, TE_sl, TO_none, TO_some, TE_call, TE_bi, TE_mt, TE_isi, TEs_nil, TEs_cons, TKV_nil, TKV_cons, TI_seq, TI_rng1, TI_rng2, TT_nm, TT_tp, TT_sub, TTs_nil, TTs_cons, TB_cmp, TB_isi, TB_not, TB_and, TB_or, TB_ite, TC_nil, TC_cons, Res.T_ok, List.getElem?_cons_succ, List.getElem?_cons_zero, List.set_cons_succ, List.set_cons_zero, Option.some.injEq, exists_eq_left', D.int.injEq, D.str.injEq, D.bl.injEq, D.tup.injEq]
        refine (words_of_odd (n := n + 1) d H ht).mono fun d2 h2 ⟨e1, e2⟩ => ?_
        subst e1 e2
        refine ⟨L_le (by decide), L_le (by decide), _, rfl, ?_⟩
        rw [if_neg (by decide), T_nil, T_nil]
        exact ⟨rfl, _, rfl⟩
      · rintro σ h ⟨_, s5, rfl⟩
        have wo : ∀ (t : S) (h : Hs), t.length ≤ 100 → (run (Pg G) (n + 6) 4 [.str t] h).T fun d h' => d = .tup (W t) := fun t h ht => (words_of_T (n := n + 1) t (by omega) h).mono fun d h' ⟨_, e⟩ => e
        rw [T_cons, T_iff, TB_or, TB_cmp]
        simp -implicitDefEqProofs only [TE_c, TE_v, TE_tup, TE_lst, TE_dct, TE_bin, TE_cmp, TE_ite, TE_and, TE_or, TE_not, TE_neg, TE_ix, TE_sl, TO_none, TO_some, TE_call, TE_bi, TE_mt, TE_isi, TEs_nil, TEs_cons, TKV_nil, TKV_cons, TI_seq, TI_rng1, TI_rng2, TT_nm, TT_tp, TT_sub, TTs_nil, TTs_cons, TB_cmp, TB_isi, TB_not, TB_and, TB_or, TB_ite, TC_nil, TC_cons, Res.T_ok, List.getElem?_cons_succ, List.getElem?_cons_zero, List.set_cons_succ, List.set_cons_zero, Option.some.injEq, exists_eq_left', D.int.injEq, D.str.injEq, D.bl.injEq, D.tup.injEq]
        refine (wo [] h (by decide)).mono fun d h1 e => ?_
        subst e
        rw [w1]
        refine ⟨L_le (by decide), L_le (by decide), _, rfl, ?_⟩
        rw [if_neg (by decide)]
        refine (wo _ h1 (by decide)).mono fun d h2 e => ?_
        subst e
        rw [w2]
        refine ⟨L_le (by decide), L_le (by decide), L_le (by decide), _, rfl, ?_⟩
        rw [if_neg (by decide)]
        refine (wo _ h2 (by decide)).mono fun d h3 e => ?_
        subst e
        rw [w3]
        refine ⟨L_le (by decide), L_le (by decide), L_le (by decide), L_le (by decide), _, rfl, ?_⟩
        rw [if_neg (by decide), T_nil, T_cons, T_ret]
        simp -implicitDefEqProofs only [TE_c, TE_v, TE_tup, TE_lst, TE_dct, TE_bin, TE_cmp, TE_ite, TE_and, TE_or, TE_not, TE_neg, TE_ix, TE_sl, TO_none, TO_some, TE_call, TE_bi, TE_mt, TE_isi, TEs_nil, TEs_cons, TKV_nil, TKV_cons, TI_seq, TI_rng1, TI_rng2, TT_nm, TT_tp, TT_sub, TTs_nil, TTs_cons, TB_cmp, TB_isi, TB_not, TB_and, TB_or, TB_ite, TC_nil, TC_cons, Res.T_ok, List.getElem?_cons_succ, List.getElem?_cons_zero, List.set_cons_succ, List.set_cons_zero, Option.some.injEq, exists_eq_left', D.int.injEq, D.str.injEq, D.bl.injEq, D.tup.injEq]
        refine (wo _ h3 (by decide)).mono fun d h4 e => ?_
        subst e
        rw [w4]
        refine ⟨L_le (by decide), L_le (by decide), L_le (by decide), L_le (by decide), L_le (by decide), L_le (by decide), L_le (by decide), _, rfl, true, rfl, ?_⟩
        rw [if_pos rfl]
        refine (wo _ h4 (by decide)).mono fun d h5 e => ?_
        subst e
        rw [w5]
        refine ⟨L_le (by decide), L_le (by decide), L_le (by decide), L_le (by decide), _, rfl, true, rfl, ?_⟩
        rw [if_pos rfl]
        refine (wo _ h5 (by decide)).mono fun d h6 e => ?_
        subst e
        rw [w6]
        simp only [slice, Res.T_ok]
        refine ⟨L_le (by decide), L_le (by decide), L_le (by decide), _, rfl, ?_⟩
        rfl
end HD
end

section
set_option Elab.async false
set_option linter.all false
set_option maxRecDepth 100000
set_option maxHeartbeats 1000000
/-! MI2: how a state of MI1's machine lies in the model's (over HandS): values, heap, steps. -/
namespace MI
open PySem PySem.Spec PyProof.Rows L2
theorem Res.W.mono {α : Type} {r : Res α} {Q Q' : α → Hs → Prop} {E E' : D → Hs → Prop} (h : r.W Q E) (hQ : ∀ a h, Q a h → Q' a h) (hE : ∀ x h, E x h → E' x h) : r.W Q' E' := by
  cases r with
  | ok a g => exact hQ a g h
  | err x g => exact hE x g h
  | stuck => exact h
theorem Res.W_bind {α β : Type} {r : Res α} {f : α → Hs → Res β} {Q : β → Hs → Prop} {E : D → Hs → Prop} : (r.bind f).W Q E ↔ r.W (fun a h => (f a h).W Q E) E := by
  cases r <;> exact Iff.rfl
/-- what the program's things are called in the model: a def's address, a class's -/
structure Gm where
  K : PySem.W.Frag
  fn : Nat → Option Addr
  cls : Nat → Option Addr
def toStr (x : S) : Str := ⟨x.toArray⟩
theorem toStr_tl (x : S) : (toStr x).cps.toList = x := rfl
theorem toStr_len (x : S) : (toStr x).length = x.length := by simp [toStr, Str.length]
theorem toStr_inj {x y : S} (h : toStr x = toStr y) : x = y := congrArg (fun z : Str => z.cps.toList) h
theorem toStr_cat (x y : S) : toStr x ++ toStr y = toStr (x ++ y) := TL.ext_tl (TL.tl_append (toStr x) (toStr y))
/-- a text as it may be -/
def SOk (x : S) : Prop := x.length ≤ L ∧ ∀ c ∈ x, c < 1114112
def tyName : Ty → String
  | .int => "int"
  | .bool => "bool"
  | .str => "str"
  | .list => "list"
  | .tuple => "tuple"
  | .dict => "dict"
  | .nonet => "NoneType"
/-- a list of the written part -/
def KL (K : PySem.W.Frag) (a : Addr) (xs : List V) : Prop := ∃ (o : Obj) (its : Array Value) (n : Nat), K.lookup a = some o ∧ o.cls = .type "list" ∧ o.dict = none ∧ o.data = .seq its n ∧ its.size ≤ sizeLine ∧ Vals xs its.toList
section
variable (G : Gm)
mutual
def DV (H : Hp) (ι : List Addr) : D → V → Prop
  | .non, v => v = .non
  | .bl b, v => v = .bl b
  | .int i, v => v = .int i
  | .str x, v => v = .str (toStr x) ∧ SOk x
  | .tup ds, v => ∃ a vs, v = .ref a ∧ SqT G.K H a vs ∧ ds.length ≤ L ∧ DVs H ι ds vs
  | .lst ds, v => ∃ a vs, v = .ref a ∧ ((∃ o, H a = some (.frz o (.lst vs))) ∨ KL G.K a vs) ∧ ds.length ≤ L ∧ DVs H ι ds vs
  | .ref n, v => ∃ a, v = .ref a ∧ ι[n]? = some a
  | .fn n, v => ∃ a, v = .ref a ∧ G.fn n = some a
  | .cls n, v => ∃ a, v = .ref a ∧ G.cls n = some a
  | .ty t, v => v = .ty (tyName t)
def DVs (H : Hp) (ι : List Addr) : List D → List V → Prop
  | [], vs => vs = []
  | d :: ds, vs => ∃ v r, vs = v :: r ∧ DV H ι d v ∧ DVs H ι ds r
end
/-- a dict's pairs -/
def KVs (H : Hp) (ι : List Addr) : List (D × D) → List (Key × V) → Prop
  | [], q => q = []
  | (k, d) :: r, q => ∃ kk v q', q = (kk, v) :: q' ∧ ((∃ i, k = .int i ∧ kk = .inl i) ∨ (∃ x, k = .str x ∧ kk = .inr (toStr x) ∧ SOk x)) ∧ DV G H ι d v ∧ KVs H ι r q'
def MOR (H : Hp) (ι : List Addr) (a : Addr) : MO → Prop
  | .lst ds => ∃ vs, H a = some (.lst vs) ∧ ds.length ≤ L ∧ DVs G H ι ds vs
  | .dct kvs => ∃ q, H a = some (.dK q) ∧ kvs.length ≤ L ∧ KVs G H ι kvs q
/-- the heap -/
structure SimH (ι : List Addr) (h : Hs) (H : Hp) : Prop where
  len : h.length = ι.length
  at_ : ∀ (n : Nat) (o : MO) (a : Addr), h[n]? = some o → ι[n]? = some a → MOR G H ι a o
  nd : ∀ (n m : Nat) (a : Addr), ι[n]? = some a → ι[m]? = some a → n = m
/-- the frame -/
def SimE (ι : List Addr) (H : Hp) (σ : Env) (τ : L2.St) : Prop := ∀ (i : Nat) (d : D), σ[i]? = some (some d) → ∃ v, τ[i]? = some (some v) ∧ DV G H ι d v
end
/-- what never changes stays -/
structure Grow (H H' : Hp) : Prop where
  tup : ∀ a xs, H a = some (.tup xs) → H' a = some (.tup xs)
  frz : ∀ a o u, H a = some (.frz o u) → H' a = some (.frz o u)
structure Next (ι : List Addr) (H : Hp) (ι' : List Addr) (H' : Hp) : Prop where
  ext : ∃ t, ι' = ι ++ t ∧ ∀ a ∈ t, H a = none
  grow : Grow H H'
  keep : ∀ a, H' a = none → H a = none
  oth : ∀ a o, H a = some o → a ∉ ι → H' a = some o
theorem Grow.refl {H : Hp} : Grow H H := ⟨fun _ _ h => h, fun _ _ _ h => h⟩
theorem Grow.trans {H H1 H2 : Hp} (a : Grow H H1) (b : Grow H1 H2) : Grow H H2 := ⟨fun c xs h => b.tup c xs (a.tup c xs h), fun c o u h => b.frz c o u (a.frz c o u h)⟩
theorem Next.refl {ι : List Addr} {H : Hp} : Next ι H ι H := ⟨⟨[], by simp⟩, .refl, fun _ h => h, fun _ _ h _ => h⟩
theorem Next.trans {ι ι1 ι2 : List Addr} {H H1 H2 : Hp} (a : Next ι H ι1 H1) (b : Next ι1 H1 ι2 H2) : Next ι H ι2 H2 := by
  obtain ⟨⟨t, rfl, ft⟩, g, k, o⟩ := a
  obtain ⟨⟨u, rfl, fu⟩, g', k', o'⟩ := b
  refine ⟨⟨t ++ u, by simp, fun c hc => ?_⟩, g.trans g', fun c hc => k c (k' c hc), fun c x hc hn => ?_⟩
  · rcases List.mem_append.mp hc with hc | hc
    · exact ft c hc
    · exact k c (fu c hc)
  · refine o' c x (o c x hc hn) fun hm => ?_
    rcases List.mem_append.mp hm with hm | hm
    · exact hn hm
    · rw [ft c hm] at hc; cases hc
theorem upd_keep {H : Hp} {p : Addr} {o : HO} {a : Addr} (h : upd H p o a = none) : H a = none := by
  by_cases e : a = p
  · subst e; rw [upd_same] at h; cases h
  · rw [upd_ne e] at h; exact h
theorem Next.wr {ι : List Addr} {H : Hp} {n : Nat} {p : Addr} {o : HO} (hn : ι[n]? = some p) (g : Grow H (upd H p o)) : Next ι H ι (upd H p o) :=
  ⟨⟨[], by simp⟩, g, fun _ h => upd_keep h, fun a x h hm => by rw [upd_ne (fun e => hm (by rw [e]; exact List.mem_of_getElem? hn))]; exact h⟩
theorem Grow.new {H : Hp} {p : Addr} {o : HO} (h : H p = none) : Grow H (upd H p o) :=
  ⟨fun a xs e => by rw [upd_ne (ne_of_none e h)]; exact e, fun a ob u e => by rw [upd_ne (ne_of_none e h)]; exact e⟩
theorem Grow.lst {H : Hp} {p : Addr} {o : HO} {xs : List V} (h : H p = some (.lst xs)) : Grow H (upd H p o) :=
  ⟨fun a ys e => by rw [upd_ne (ne_of e h (by intro z; cases z))]; exact e, fun a ob u e => by rw [upd_ne (ne_of e h (by intro z; cases z))]; exact e⟩
theorem Grow.dct {H : Hp} {p : Addr} {o : HO} {xs : List (Key × V)} (h : H p = some (.dK xs)) : Grow H (upd H p o) :=
  ⟨fun a ys e => by rw [upd_ne (ne_of e h (by intro z; cases z))]; exact e, fun a ob u e => by rw [upd_ne (ne_of e h (by intro z; cases z))]; exact e⟩
theorem Grow.sqT {K : PySem.W.Frag} {H H' : Hp} (g : Grow H H') {a : Addr} {xs : List V} (h : SqT K H a xs) : SqT K H' a xs := by
  rcases h with (h | ⟨o, h⟩) | h
  · exact .inl (.inl (g.tup _ _ h))
  · exact .inl (.inr ⟨o, g.frz _ _ _ h⟩)
  · exact .inr h
section
variable {G : Gm} {H H' : Hp} {ι ι' : List Addr}
theorem ext_get {t : List Addr} {n : Nat} {a : Addr} (h : ι[n]? = some a) : (ι ++ t)[n]? = some a := by
  obtain ⟨hl, e⟩ := List.getElem?_eq_some_iff.mp h
  rw [List.getElem?_append_left hl]; exact h
mutual
theorem DV.next' (x : Grow H H') (hx : ∃ t, ι' = ι ++ t) : ∀ (d : D) (v : V), DV G H ι d v → DV G H' ι' d v
  | .non, _, h => by unfold DV at *; exact h
  | .bl _, _, h => by unfold DV at *; exact h
  | .int _, _, h => by unfold DV at *; exact h
  | .str _, _, h => by unfold DV at *; exact h
  | .tup ds, v, h => by
    unfold DV at *
    obtain ⟨a, vs, e, s, l, q⟩ := h
    exact ⟨a, vs, e, x.sqT s, l, DVs.next' x hx ds vs q⟩
  | .lst ds, v, h => by
    unfold DV at *
    obtain ⟨a, vs, e, s, l, q⟩ := h
    refine ⟨a, vs, e, ?_, l, DVs.next' x hx ds vs q⟩
    rcases s with ⟨o, s⟩ | s
    · exact .inl ⟨o, x.frz _ _ _ s⟩
    · exact .inr s
  | .ref n, v, h => by
    unfold DV at *
    obtain ⟨a, e, q⟩ := h
    obtain ⟨t, rfl⟩ := hx
    exact ⟨a, e, ext_get q⟩
  | .fn _, _, h => by unfold DV at *; exact h
  | .cls _, _, h => by unfold DV at *; exact h
  | .ty _, _, h => by unfold DV at *; exact h
theorem DVs.next' (x : Grow H H') (hx : ∃ t, ι' = ι ++ t) : ∀ (ds : List D) (vs : List V), DVs G H ι ds vs → DVs G H' ι' ds vs
  | [], _, h => by unfold DVs at *; exact h
  | d :: ds, vs, h => by
    unfold DVs at *
    obtain ⟨v, r, e, q, qs⟩ := h
    exact ⟨v, r, e, DV.next' x hx d v q, DVs.next' x hx ds r qs⟩
end
theorem Next.ext' (x : Next ι H ι' H') : ∃ t, ι' = ι ++ t := let ⟨t, e, _⟩ := x.ext; ⟨t, e⟩
theorem DV.next (x : Next ι H ι' H') (d : D) (v : V) (h : DV G H ι d v) : DV G H' ι' d v := DV.next' x.grow x.ext' d v h
theorem DVs.next (x : Next ι H ι' H') (ds : List D) (vs : List V) (h : DVs G H ι ds vs) : DVs G H' ι' ds vs := DVs.next' x.grow x.ext' ds vs h
theorem KVs.next' (x : Grow H H') (hx : ∃ t, ι' = ι ++ t) : ∀ (ds : List (D × D)) (vs : List (Key × V)), KVs G H ι ds vs → KVs G H' ι' ds vs
  | [], _, h => by unfold KVs at *; exact h
  | (k, d) :: ds, vs, h => by
    unfold KVs at *
    obtain ⟨kk, v, r, e, hk, q, qs⟩ := h
    exact ⟨kk, v, r, e, hk, DV.next' x hx d v q, KVs.next' x hx ds r qs⟩
theorem KVs.next (x : Next ι H ι' H') (ds : List (D × D)) (vs : List (Key × V)) (h : KVs G H ι ds vs) : KVs G H' ι' ds vs := KVs.next' x.grow x.ext' ds vs h
theorem SimE.next {σ : Env} {τ : L2.St} (x : Next ι H ι' H') (h : SimE G ι H σ τ) : SimE G ι' H' σ τ := fun i d e => by
  obtain ⟨v, ev, q⟩ := h i d e
  exact ⟨v, ev, DV.next x d v q⟩
theorem SimE.set {σ : Env} {τ : L2.St} {i : Nat} {d : D} {v : V} (hl : σ.length = τ.length) (h : SimE G ι H σ τ) (q : DV G H ι d v) : SimE G ι H (σ.set i (some d)) (τ.set i (some v)) := fun j e he => by
  by_cases hj : i = j
  · subst hj
    by_cases hi : i < σ.length
    · rw [List.getElem?_set_self hi] at he
      cases he
      exact ⟨v, List.getElem?_set_self (by omega), q⟩
    · rw [List.getElem?_eq_none (by simpa using hi)] at he
      cases he
  · rw [List.getElem?_set_ne hj] at he
    obtain ⟨w, ew, qw⟩ := h j e he
    exact ⟨w, by rw [List.getElem?_set_ne hj]; exact ew, qw⟩
/-! ### lists of values -/
theorem DVs.length : ∀ {ds : List D} {vs : List V}, DVs G H ι ds vs → ds.length = vs.length
  | [], _, h => by unfold DVs at h; subst h; rfl
  | d :: ds, _, h => by
    unfold DVs at h
    obtain ⟨v, r, rfl, _, qs⟩ := h
    simp [DVs.length qs]
theorem DVs.nil : DVs G H ι [] [] := by unfold DVs; rfl
theorem DVs.cons {d : D} {v : V} {ds : List D} {vs : List V} (a : DV G H ι d v) (b : DVs G H ι ds vs) : DVs G H ι (d :: ds) (v :: vs) := by
  unfold DVs; exact ⟨v, vs, rfl, a, b⟩
theorem DVs.cons_inv {d : D} {ds : List D} {vs : List V} (h : DVs G H ι (d :: ds) vs) : ∃ v r, vs = v :: r ∧ DV G H ι d v ∧ DVs G H ι ds r := by
  unfold DVs at h; exact h
theorem DVs.nil_inv {vs : List V} (h : DVs G H ι [] vs) : vs = [] := by unfold DVs at h; exact h
theorem DVs.get : ∀ {ds : List D} {vs : List V} {i : Nat} {d : D}, DVs G H ι ds vs → ds[i]? = some d → ∃ v, vs[i]? = some v ∧ DV G H ι d v
  | [], _, _, _, _, e => by simp at e
  | c :: ds, _, 0, d, h, e => by
    obtain ⟨v, r, rfl, q, _⟩ := h.cons_inv
    simp at e; subst e
    exact ⟨v, rfl, q⟩
  | c :: ds, _, i + 1, d, h, e => by
    obtain ⟨v, r, rfl, _, qs⟩ := h.cons_inv
    obtain ⟨w, ew, qw⟩ := DVs.get (i := i) (d := d) qs (by simpa using e)
    exact ⟨w, by simpa using ew, qw⟩
theorem DVs.append : ∀ {ds es : List D} {vs ws : List V}, DVs G H ι ds vs → DVs G H ι es ws → DVs G H ι (ds ++ es) (vs ++ ws)
  | [], _, _, _, h, g => by rw [h.nil_inv]; exact g
  | d :: ds, _, _, _, h, g => by
    obtain ⟨v, r, rfl, q, qs⟩ := h.cons_inv
    exact .cons q (qs.append g)
theorem DVs.take : ∀ {ds : List D} {vs : List V} (n : Nat), DVs G H ι ds vs → DVs G H ι (ds.take n) (vs.take n)
  | _, _, 0, _ => by simpa using DVs.nil
  | [], _, n + 1, h => by rw [h.nil_inv]; exact .nil
  | d :: ds, _, n + 1, h => by
    obtain ⟨v, r, rfl, q, qs⟩ := h.cons_inv
    exact .cons q (qs.take n)
theorem DVs.drop : ∀ {ds : List D} {vs : List V} (n : Nat), DVs G H ι ds vs → DVs G H ι (ds.drop n) (vs.drop n)
  | _, _, 0, h => h
  | [], _, n + 1, h => by rw [h.nil_inv]; exact .nil
  | d :: ds, _, n + 1, h => by
    obtain ⟨v, r, rfl, q, qs⟩ := h.cons_inv
    exact qs.drop n
theorem DVs.set : ∀ {ds : List D} {vs : List V} (n : Nat) {d : D} {v : V}, DVs G H ι ds vs → DV G H ι d v → DVs G H ι (ds.set n d) (vs.set n v)
  | [], _, _, _, _, h, _ => by rw [h.nil_inv]; exact .nil
  | c :: ds, _, 0, _, _, h, a => by
    obtain ⟨v, r, rfl, q, qs⟩ := h.cons_inv
    exact .cons a qs
  | c :: ds, _, n + 1, _, _, h, a => by
    obtain ⟨v, r, rfl, q, qs⟩ := h.cons_inv
    exact .cons q (qs.set n a)
theorem DVs.eraseIdx : ∀ {ds : List D} {vs : List V} (n : Nat), DVs G H ι ds vs → DVs G H ι (ds.eraseIdx n) (vs.eraseIdx n)
  | [], _, _, h => by rw [h.nil_inv]; exact .nil
  | c :: ds, _, 0, h => by
    obtain ⟨v, r, rfl, q, qs⟩ := h.cons_inv
    exact qs
  | c :: ds, _, n + 1, h => by
    obtain ⟨v, r, rfl, q, qs⟩ := h.cons_inv
    exact .cons q (qs.eraseIdx n)
theorem DVs.rep {ds : List D} {vs : List V} (h : DVs G H ι ds vs) : ∀ n : Nat, DVs G H ι (rep ds n) (List.replicate n vs).flatten
  | 0 => DVs.nil
  | n + 1 => by
    show DVs G H ι (List.replicate (n + 1) ds).flatten (List.replicate (n + 1) vs).flatten
    rw [List.replicate_succ, List.replicate_succ, List.flatten_cons, List.flatten_cons]
    exact h.append (DVs.rep h n)
theorem DVs.snoc_inv {ds : List D} {d : D} {vs : List V} (h : DVs G H ι (ds ++ [d]) vs) : ∃ ws v, vs = ws ++ [v] ∧ DVs G H ι ds ws ∧ DV G H ι d v := by
  induction ds generalizing vs with
  | nil =>
    obtain ⟨v, r, rfl, q, qs⟩ := DVs.cons_inv h
    rw [qs.nil_inv]
    exact ⟨[], v, rfl, .nil, q⟩
  | cons c ds ih =>
    obtain ⟨v, r, rfl, q, qs⟩ := DVs.cons_inv h
    obtain ⟨ws, u, rfl, a, b⟩ := ih qs
    exact ⟨v :: ws, u, rfl, .cons q a, b⟩
/-! ### the heap's steps -/
theorem MOR.nextG (x : Grow H H') (hx : ∃ t, ι' = ι ++ t) {a : Addr} (e : ∀ o, H a = some o → H' a = some o) : ∀ {o : MO}, MOR G H ι a o → MOR G H' ι' a o
  | .lst ds => fun h => by
    obtain ⟨vs, h1, h2, h3⟩ := h
    exact ⟨vs, e _ h1, h2, h3.next' x hx _ _⟩
  | .dct kvs => fun h => by
    obtain ⟨q, h1, h2, h3⟩ := h
    exact ⟨q, e _ h1, h2, h3.next' x hx _ _⟩
theorem MOR.next (x : Next ι H ι' H') {a : Addr} {o : MO} (e : ∀ o, H a = some o → H' a = some o) (h : MOR G H ι a o) : MOR G H' ι' a o := MOR.nextG x.grow x.ext' e h
theorem MOR.next' (x : Grow H H') {a : Addr} {o : MO} (e : ∀ o, H a = some o → H' a = some o) (h : MOR G H ι a o) : MOR G H' ι a o := MOR.nextG x ⟨[], by simp⟩ e h
/-- what stands at a tracked place -/
theorem MOR.some {a : Addr} {o : MO} (h : MOR G H ι a o) : ∃ u, H a = some u := by
  cases o with
  | lst ds => obtain ⟨vs, h1, _⟩ := h; exact ⟨_, h1⟩
  | dct kvs => obtain ⟨q, h1, _⟩ := h; exact ⟨_, h1⟩
theorem snoc_get {α : Type} {l : List α} {x y : α} {n : Nat} (h : (l ++ [x])[n]? = some y) : l[n]? = some y ∨ (n = l.length ∧ y = x) := by
  by_cases hn : n < l.length
  · rw [List.getElem?_append_left hn] at h; exact .inl h
  · rw [List.getElem?_append_right (by omega)] at h
    by_cases e : n - l.length = 0
    · rw [e] at h; simp at h; exact .inr ⟨by omega, h.symm⟩
    · rw [List.getElem?_eq_none (by simp; omega)] at h; cases h
variable {h : Hs}
theorem Next.extra {p : Addr} {o : HO} (hp : H p = none) : Next ι H ι (upd H p o) := ⟨⟨[], by simp⟩, .new hp, fun _ h => upd_keep h, fun a x h _ => by rw [upd_ne (ne_of_none h hp)]; exact h⟩
theorem Next.new {p : Addr} {o : HO} (hp : H p = none) : Next ι H (ι ++ [p]) (upd H p o) := ⟨⟨[p], rfl, fun a ha => by rw [List.mem_singleton.mp ha]; exact hp⟩, .new hp, fun _ h => upd_keep h, fun a x h _ => by rw [upd_ne (ne_of_none h hp)]; exact h⟩
/-- what nobody here holds is written -/
theorem Next.poke {H2 : Hp} {p : Addr} {o : HO} {xs : List V} (x : Next ι H ι' H2) (hp : H p = none) (h2 : H2 p = some (.lst xs)) : Next ι H ι' (upd H2 p o) :=
  ⟨x.ext, x.grow.trans (.lst h2), fun a h => x.keep a (upd_keep h), fun a y h hm => by rw [upd_ne (ne_of_none h hp)]; exact x.oth a y h hm⟩
theorem Next.out {p : Addr} {u : HO} (x : Next ι H ι' H') (hp : H p = some u) (hm : p ∉ ι) : H' p = some u ∧ p ∉ ι' := by
  refine ⟨x.oth p u hp hm, fun h => ?_⟩
  obtain ⟨⟨t, rfl, ft⟩, _⟩ := x
  rcases List.mem_append.mp h with h | h
  · exact hm h
  · rw [ft p h] at hp; cases hp
/-- a thing is laid that nobody here holds -/
theorem SimH.extra (s : SimH G ι h H) {p : Addr} {o : HO} (hp : H p = none) : SimH G ι h (upd H p o) :=
  ⟨s.len, fun n u a e1 e2 => (s.at_ n u a e1 e2).next (.extra hp) fun w hw => by rw [upd_ne (ne_of_none hw hp)]; exact hw, s.nd⟩
/-- what nobody here holds is written -/
theorem SimH.poke (s : SimH G ι h H) {p : Addr} {o : HO} {xs : List V} (h2 : H p = some (.lst xs)) (hm : p ∉ ι) : SimH G ι h (upd H p o) :=
  ⟨s.len, fun n u a e1 e2 => (s.at_ n u a e1 e2).next' (.lst h2) fun w hw => by rw [upd_ne (fun e => hm (by rw [← e]; exact List.mem_of_getElem? e2))]; exact hw, s.nd⟩
/-- a new thing of ours -/
theorem SimH.new (s : SimH G ι h H) {p : Addr} {o : HO} {u : MO} (hp : H p = none) (m : MOR G (upd H p o) (ι ++ [p]) p u) : SimH G (ι ++ [p]) (h ++ [u]) (upd H p o) := by
  refine ⟨by simp [s.len], fun n w a e1 e2 => ?_, fun n k a e1 e2 => ?_⟩
  · rcases snoc_get e1 with e1 | ⟨rfl, rfl⟩
    · have hn : n < h.length := (List.getElem?_eq_some_iff.mp e1).1
      rw [List.getElem?_append_left (by rw [← s.len]; exact hn)] at e2
      exact (s.at_ n w a e1 e2).next (.new hp) fun w hw => by rw [upd_ne (ne_of_none hw hp)]; exact hw
    · rw [s.len, List.getElem?_concat_length] at e2
      cases e2
      exact m
  · have old : ∀ {n : Nat}, ι[n]? = some a → a ≠ p := fun {n} e z => by
      have hn : n < h.length := by rw [s.len]; exact (List.getElem?_eq_some_iff.mp e).1
      obtain ⟨v, hv⟩ := (s.at_ n _ a (List.getElem?_eq_getElem hn) e).some
      rw [z, hp] at hv; cases hv
    rcases snoc_get e1 with e1 | ⟨r1, z1⟩
    · rcases snoc_get e2 with e2 | ⟨r2, z2⟩
      · exact s.nd n k a e1 e2
      · exact absurd z2 (old e1)
    · rcases snoc_get e2 with e2 | ⟨r2, z2⟩
      · exact absurd z1 (old e2)
      · exact r1.trans r2.symm
/-- a thing of ours is written -/
theorem SimH.set (s : SimH G ι h H) {n : Nat} {a : Addr} {w u : MO} {o : HO} (hw : h[n]? = some w) (ha : ι[n]? = some a) (g : Grow H (upd H a o)) (m : MOR G (upd H a o) ι a u) : SimH G ι (h.set n u) (upd H a o) := by
  refine ⟨by simp [s.len], fun k x b e1 e2 => ?_, s.nd⟩
  by_cases hk : n = k
  · subst hk
    rw [ha] at e2; cases e2
    rw [List.getElem?_set_self (List.getElem?_eq_some_iff.mp hw).1] at e1
    cases e1
    exact m
  · rw [List.getElem?_set_ne hk] at e1
    refine (s.at_ k x b e1 e2).next (.wr ha g) fun y hy => ?_
    have : b ≠ a := fun z => hk (s.nd n k a ha (by rw [← z]; exact e2))
    rw [upd_ne this]; exact hy
end
end MI
end

section
set_option Elab.async false
set_option linter.all false
set_option maxRecDepth 100000
set_option maxHeartbeats 1000000
/-! MI3: what a piece of MI1's machine tells of the model: the wish behind it; operators. -/
namespace MI
open PySem PySem.Spec PyProof.Rows L2
/-- what is wanted of an exception -/
abbrev XW := D → List Addr → Hs → Hp → Prop
section
variable (G : Gm)
/-- a piece's end r is had, behind it Q (or E) -/
def Post {α β : Type} (rel : Hp → List Addr → α → β → Prop) (ι : List Addr) (H : Hp) (r : Res α) (Q : β → Hp → Prop) (E : XW) : Prop :=
  r.W (fun d h' => ∀ ι' H' v, Next ι H ι' H' → SimH G ι' h' H' → rel H' ι' d v → Q v H') (fun x h' => ∀ ι' H', Next ι H ι' H' → SimH G ι' h' H' → E x ι' h' H')
abbrev PostD (ι : List Addr) (H : Hp) (r : Res D) (Q : VK) (E : XW) : Prop := Post G (DV G) ι H r Q E
end
section
variable {G : Gm} {α β γ δ : Type} {rel : Hp → List Addr → α → β → Prop} {rel' : Hp → List Addr → γ → δ → Prop} {ι ι' : List Addr} {H H' : Hp} {E : XW}
theorem Post.seq {r : Res γ} {k : γ → Hs → Res α} {Q : β → Hp → Prop} {Q1 : δ → Hp → Prop} (h : Post G rel ι H (r.bind k) Q E)
    (f : ∀ a h1 ι1 H1 v1, Next ι H ι1 H1 → SimH G ι1 h1 H1 → rel' H1 ι1 a v1 → Post G rel ι1 H1 (k a h1) Q E → Q1 v1 H1) : Post G rel' ι H r Q1 E := by
  cases r with
  | ok a h1 =>
    intro ι1 H1 v1 n s d
    refine f a h1 ι1 H1 v1 n s d ?_
    have h' : (k a h1).W _ _ := h
    exact h'.mono (fun b h2 q ι2 H2 v2 n2 s2 d2 => q ι2 H2 v2 (n.trans n2) s2 d2) (fun x h2 q ι2 H2 n2 s2 => q ι2 H2 (n.trans n2) s2)
  | err x h1 => exact h
  | stuck => exact h
theorem Post.ok {a : α} {h : Hs} {Q : β → Hp → Prop} {v : β} (p : Post G rel ι H (.ok a h) Q E) (s : SimH G ι h H) (d : rel H ι a v) : Q v H := p ι H v .refl s d
theorem Post.at_ {a : α} {h : Hs} {Q : β → Hp → Prop} {v : β} (p : Post G rel ι H (.ok a h) Q E) (n : Next ι H ι' H') (s : SimH G ι' h H') (d : rel H' ι' a v) : Q v H' := p ι' H' v n s d
theorem Post.mono {r : Res α} {Q Q' : β → Hp → Prop} (p : Post G rel ι H r Q E) (f : ∀ v H', Q v H' → Q' v H') : Post G rel ι H r Q' E :=
  Res.W.mono p (fun _ _ q ι1 H1 v n s d => f v H1 (q ι1 H1 v n s d)) fun _ _ q => q
end
section
variable {G : Gm} {ι : List Addr} {H : Hp} {h : Hs}
/-! ### what a value is, by what it stands for -/
theorem DV.non_inv {v : V} (d : DV G H ι .non v) : v = .non := by unfold DV at d; exact d
theorem DV.bl_inv {b : Bool} {v : V} (d : DV G H ι (.bl b) v) : v = .bl b := by unfold DV at d; exact d
theorem DV.int_inv {i : Int} {v : V} (d : DV G H ι (.int i) v) : v = .int i := by unfold DV at d; exact d
theorem DV.str_inv {x : S} {v : V} (d : DV G H ι (.str x) v) : v = .str (toStr x) ∧ SOk x := by unfold DV at d; exact d
theorem DV.tup_inv {ds : List D} {v : V} (d : DV G H ι (.tup ds) v) : ∃ a vs, v = .ref a ∧ SqT G.K H a vs ∧ ds.length ≤ L ∧ DVs G H ι ds vs := by unfold DV at d; exact d
theorem DV.ref_inv {n : Nat} {v : V} (d : DV G H ι (.ref n) v) : ∃ a, v = .ref a ∧ ι[n]? = some a := by unfold DV at d; exact d
theorem DV.lst_inv {ds : List D} {v : V} (d : DV G H ι (.lst ds) v) : ∃ a vs, v = .ref a ∧ SqL G.K H a vs ∧ ds.length ≤ L ∧ DVs G H ι ds vs := by
  unfold DV at d
  obtain ⟨a, vs, e, s, l, q⟩ := d
  refine ⟨a, vs, e, ?_, l, q⟩
  rcases s with ⟨o, s⟩ | s
  · exact .inl (.inr ⟨o, s⟩)
  · exact .inr s
theorem DV.non : DV G H ι .non .non := by unfold DV; rfl
theorem DV.bl {b : Bool} : DV G H ι (.bl b) (.bl b) := by unfold DV; rfl
theorem DV.int {i : Int} : DV G H ι (.int i) (.int i) := by unfold DV; rfl
theorem DV.str {x : S} (s : SOk x) : DV G H ι (.str x) (.str (toStr x)) := by unfold DV; exact ⟨rfl, s⟩
theorem DV.tup {ds : List D} {a : Addr} {vs : List V} (s : SqT G.K H a vs) (l : ds.length ≤ L) (q : DVs G H ι ds vs) : DV G H ι (.tup ds) (.ref a) := by unfold DV; exact ⟨a, vs, rfl, s, l, q⟩
theorem DV.ref {n : Nat} {a : Addr} (e : ι[n]? = some a) : DV G H ι (.ref n) (.ref a) := by unfold DV; exact ⟨a, rfl, e⟩
theorem L_eq : L = sizeLine := sizeLine_eq.symm
theorem SimH.lst (s : SimH G ι h H) {n : Nat} {ds : List D} {a : Addr} (e : h[n]? = some (.lst ds)) (q : ι[n]? = some a) : ∃ vs, H a = some (.lst vs) ∧ ds.length ≤ L ∧ DVs G H ι ds vs := s.at_ n _ a e q
theorem SimH.dct (s : SimH G ι h H) {n : Nat} {ds : List (D × D)} {a : Addr} (e : h[n]? = some (.dct ds)) (q : ι[n]? = some a) : ∃ vs, H a = some (.dK vs) ∧ ds.length ≤ L ∧ KVs G H ι ds vs := s.at_ n _ a e q
/-- a list that is read -/
theorem SimH.seq (s : SimH G ι h H) {n : Nat} {ds : List D} {a : Addr} (e : seqOf h n = some ds) (q : ι[n]? = some a) : ∃ vs, SqL G.K H a vs ∧ ds.length ≤ L ∧ DVs G H ι ds vs := by
  unfold seqOf at e
  split at e
  · cases e
    obtain ⟨vs, h1, h2⟩ := s.lst (by assumption) q
    exact ⟨vs, .inl (.inl h1), h2⟩
  · cases e
/-- a new tuple -/
theorem Post.newTup {E : XW} {ds : List D} {vs : List V} {Q : VK} (p : PostD G ι H (.ok (.tup ds) h) Q E) (s : SimH G ι h H) (l : ds.length ≤ L) (q : DVs G H ι ds vs) {a : Addr} (ha : H a = none) : Q (.ref a) (upd H a (.tup vs)) :=
  p.at_ (.extra ha) (s.extra ha) (.tup (.inl (.inl upd_same)) l (q.next (.extra ha)))
/-- a new list -/
theorem Post.newLst {E : XW} {ds : List D} {vs : List V} {Q : VK} (p : PostD G ι H (new (.lst ds) h) Q E) (s : SimH G ι h H) (l : ds.length ≤ L) (q : DVs G H ι ds vs) {a : Addr} (ha : H a = none) : Q (.ref a) (upd H a (.lst vs)) := by
  refine p.at_ (.new ha) (s.new ha ⟨vs, upd_same, l, q.next (.new ha)⟩) (.ref ?_)
  rw [s.len, List.getElem?_concat_length]
theorem SOk.append {x y : S} (a : SOk x) (b : SOk y) (l : x.length + y.length ≤ L) : SOk (x ++ y) :=
  ⟨by simpa using l, fun c hc => (List.mem_append.mp hc).elim (a.2 c) (b.2 c)⟩
theorem SOk.sub {x y : S} (a : SOk x) (l : y.length ≤ x.length) (m : ∀ c ∈ y, c ∈ x) : SOk y := ⟨Nat.le_trans l a.1, fun c hc => a.2 c (m c hc)⟩
end
/-- an operator's reading, by what MI1 tells -/
def r2D (G : Gm) (E : XW) (f : D → D → Hs → Res D) : R2 := fun u v H Q => ∃ ι x y h, SimH G ι h H ∧ DV G H ι x u ∧ DV G H ι y v ∧ PostD G ι H (f x y h) Q E
section
variable {G : Gm} {E : XW} {X : Cx}
theorem op_addD (hK : X.K = G.K) : OpR X (binaryOp .Add) (r2D G E addD) := by
  intro pins s σ H u v uu vv Q I ru rv ⟨ι, x, y, h, S, dx, dy, p⟩
  unfold addD at p
  split at p
  · rw [dx.int_inv] at ru; rw [dy.int_inv] at rv
    exact op_add pins s σ H _ _ uu vv Q I ru rv ⟨_, _, rfl, rfl, p.ok S .int⟩
  · split at p
    · rename_i hl
      obtain ⟨e1, s1⟩ := dx.str_inv; obtain ⟨e2, s2⟩ := dy.str_inv
      rw [e1] at ru; rw [e2] at rv
      refine op_add_str pins s σ H _ _ uu vv Q I ru rv ⟨_, _, rfl, rfl, ?_, ?_⟩
      · rw [toStr_len, toStr_len, sizeLine_eq]; exact hl
      · rw [toStr_cat]; exact p.ok S (.str (s1.append s2 hl))
    · exact p.elim
  · split at p
    · rename_i xs ys hl
      obtain ⟨a, vs, rfl, t1, l1, q1⟩ := dx.tup_inv; obtain ⟨b, ws, rfl, t2, l2, q2⟩ := dy.tup_inv
      rw [← hK] at t1 t2
      refine op_catA pins s σ H _ _ uu vv Q I ru rv ⟨a, b, vs, ws, rfl, rfl, t1, t2, ?_, fun e => ?_, fun _ e => ?_, fun _ _ a ha => ?_⟩
      · rw [← q1.length, ← q2.length, sizeLine_eq]; exact hl
      · have : xs = [] := List.eq_nil_of_length_eq_zero (by rw [q1.length, e]; rfl)
        subst this
        rw [hK] at t2
        exact p.ok S (.tup t2 l2 q2)
      · have : ys = [] := List.eq_nil_of_length_eq_zero (by rw [q2.length, e]; rfl)
        subst this
        rw [hK] at t1
        rw [List.append_nil] at p
        exact p.ok S (.tup t1 l1 q1)
      · exact p.newTup S (by simpa using hl) (q1.append q2) ha
    · exact p.elim
  · split at p
    · rename_i m n o1 o2 xs ys e1 e2
      unfold newL at p
      split at p
      · rename_i hl
        obtain ⟨a, rfl, i1⟩ := dx.ref_inv; obtain ⟨b, rfl, i2⟩ := dy.ref_inv
        obtain ⟨vs, h1, _, q1⟩ := S.lst e1 i1; obtain ⟨ws, h2, _, q2⟩ := S.lst e2 i2
        refine op_cat pins s σ H _ _ uu vv Q I ru rv ⟨a, b, vs, ws, rfl, rfl, h1, h2, ?_, fun c hc => p.newLst S hl (q1.append q2) hc⟩
        rw [← q1.length, ← q2.length, sizeLine_eq]; simpa using hl
      · exact p.elim
    · exact p.elim
  · exact p.elim
theorem op_subD : OpR X (binaryOp .Sub) (r2D G E subD) := by
  intro pins s σ H u v uu vv Q I ru rv ⟨ι, x, y, h, S, dx, dy, p⟩
  unfold subD at p
  split at p
  · rw [dx.int_inv] at ru; rw [dy.int_inv] at rv
    exact op_sub pins s σ H _ _ uu vv Q I ru rv ⟨_, _, rfl, rfl, p.ok S .int⟩
  · exact p.elim
theorem op_divD : OpR X (binaryOp .FloorDiv) (r2D G E divD) := by
  intro pins s σ H u v uu vv Q I ru rv ⟨ι, x, y, h, S, dx, dy, p⟩
  unfold divD at p
  split at p
  · split at p
    · rename_i hl
      rw [dx.int_inv] at ru; rw [dy.int_inv] at rv
      exact op_fdiv pins s σ H _ _ uu vv Q I ru rv ⟨_, _, rfl, rfl, hl, p.ok S .int⟩
    · exact p.elim
  · exact p.elim
theorem op_modD : OpR X (binaryOp .Mod) (r2D G E modD) := by
  intro pins s σ H u v uu vv Q I ru rv ⟨ι, x, y, h, S, dx, dy, p⟩
  unfold modD at p
  split at p
  · split at p
    · rename_i hl
      rw [dx.int_inv] at ru; rw [dy.int_inv] at rv
      exact op_mod pins s σ H _ _ uu vv Q I ru rv ⟨_, _, rfl, rfl, hl, p.ok S .int⟩
    · exact p.elim
  · exact p.elim
theorem op_powD : OpR X (binaryOp .Pow) (r2D G E powD) := by
  intro pins s σ H u v uu vv Q I ru rv ⟨ι, x, y, h, S, dx, dy, p⟩
  unfold powD at p
  split at p
  · split at p
    · rename_i hl
      rw [dx.int_inv] at ru; rw [dy.int_inv] at rv
      exact op_pow pins s σ H _ _ uu vv Q I ru rv ⟨_, _, rfl, rfl, ⟨hl.1, hl.2.1, by have := hl.2.2; omega⟩, p.ok S .int⟩
    · exact p.elim
  · exact p.elim
theorem fold_rep (x : S) : ∀ (n : Nat) (acc : Array Nat), ((List.replicate n x.toArray).foldl (· ++ ·) acc).toList = acc.toList ++ rep x n
  | 0, acc => by simp [rep]
  | n + 1, acc => by
    rw [List.replicate_succ, List.foldl_cons, fold_rep x n]
    simp [rep, List.replicate_succ]
theorem rep_len {α : Type} (x : List α) (n : Nat) : (rep x n).length = x.length * n := by
  unfold rep
  induction n with
  | zero => simp
  | succ n ih => rw [List.replicate_succ, List.flatten_cons, List.length_append, ih, Nat.mul_succ]; omega
theorem rep_mem {α : Type} {x : List α} {n : Nat} {c : α} (h : c ∈ rep x n) : c ∈ x := by
  unfold rep at h
  rw [List.mem_flatten] at h
  obtain ⟨l, hl, hc⟩ := h
  rw [List.eq_of_mem_replicate hl] at hc
  exact hc
theorem mul_toStr (x : S) (n : Int) (h0 : 0 ≤ n) : Txt.mul (toStr x) n = toStr (rep x n.toNat) := by
  unfold Txt.mul
  by_cases h1 : n < 1
  · have : n = 0 := by omega
    subst this
    rw [if_pos (by decide)]
    rfl
  · rw [if_neg h1]
    by_cases h2 : n = 1
    · subst h2
      simp [rep, toStr]
    · by_cases h3 : x = []
      · subst h3
        rw [if_pos (by simp [toStr, Str.length])]
        have : rep ([] : S) n.toNat = [] := List.eq_nil_of_length_eq_zero (by rw [rep_len]; simp)
        rw [this]
      · have hc : (n == 1 || (toStr x).length == 0) = false := by
          rw [toStr_len]
          simp [h2, h3]
        rw [hc, if_neg (by decide)]
        show (⟨_⟩ : Str) = ⟨_⟩
        congr 1
        apply Array.toList_inj.mp
        show (List.foldl (· ++ ·) #[] (List.replicate n.toNat x.toArray)).toList = _
        rw [fold_rep]
        simp
theorem tuple_mul0 (l : Addr) (items : Array Value) (n : Nat) (dd : Option Addr) (sl : Array (Option Value)) (x : Int) (u : Tok) (c0 : (decide (x < -(2 ^ 63)) || decide (x ≥ 2 ^ 63)) = false) (c1 : (items.isEmpty || x == 1) = false) (c2 : (decide (x ≤ 0) || items.isEmpty) = true) :
    Meets (Builtin.«tuple.__mul__» ⟨[.ref l, .int x u], []⟩) (fun _ R s => s.heap.get? l = some { cls := .type "tuple", dict := dd, data := .seq items n, slots := sl } ∧
      R (.ok (.ret (Value.ref s.heap.objs.size))) { s with heap := s.heap.push { cls := Value.type "tuple", data := Data.seq #[] }, toks := s.toks }) :=
  .of_wp fun prog w A R s h => by
    obtain ⟨hp, g, d, tk, os⟩ := s
    obtain ⟨hl, h⟩ := h
    have f1 := AutoSeq1.idx_int
    wp_walk using wpAny_loadPart' hl
    repeat (first
      | (refine wpAny_ite_false (decide_eq_false (by rw [c0]; exact Bool.false_ne_true)) ?_; wp_walk using wpAny_loadPart' hl)
      | (refine wpAny_ite_false (decide_eq_false (by rw [c1]; exact Bool.false_ne_true)) ?_; wp_walk using wpAny_loadPart' hl)
      | (refine wpAny_ite_true (decide_eq_true (by rw [c2])) ?_; wp_walk using wpAny_loadPart' hl))
    exact ⟨_, rfl, h⟩
theorem tuple_mul1 (l : Addr) (items : Array Value) (n : Nat) (x : Int) (u : Tok) (c0 : (decide (x < -(2 ^ 63)) || decide (x ≥ 2 ^ 63)) = false) (c1 : (items.isEmpty || x == 1) = true) :
    Meets (Builtin.«tuple.__mul__» ⟨[.ref l, .int x u], []⟩) (fun _ R s => (∃ dd sl, s.heap.get? l = some { cls := .type "tuple", dict := dd, data := .seq items n, slots := sl }) ∧
      R (.ok (.ret (Value.ref l))) s) :=
  .of_wp fun prog w A R s h => by
    obtain ⟨hp, g, d, tk, os⟩ := s
    obtain ⟨⟨dd, sl, hl⟩, h⟩ := h
    have f1 := AutoSeq1.idx_int
    wp_walk using wpAny_loadPart' hl
    repeat (first
      | (refine wpAny_ite_false (decide_eq_false (by rw [c0]; exact Bool.false_ne_true)) ?_; wp_walk using wpAny_loadPart' hl)
      | (refine wpAny_ite_true (decide_eq_true (by rw [c1])) ?_; wp_walk using wpAny_loadPart' hl))
    exact ⟨_, rfl, h⟩
/-- t * k, where it is t itself, or nothing -/
def rRep01 (K : PySem.W.Frag) : R2 := fun x y H Q => ∃ l k xs, x = .ref l ∧ y = .int k ∧ SqT K H l xs ∧ 0 ≤ k ∧ k < 2 ^ 62 ∧ ((xs = [] ∨ k = 1) → Q (.ref l) H) ∧ (xs ≠ [] → k = 0 → ∀ p, H p = none → Q (.ref p) (upd H p (.tup []))) ∧ (xs = [] ∨ k = 1 ∨ k = 0)
theorem op_rep01 : OpR X (binaryOp .Mult) (rRep01 X.K) := by
  intro pins s σ H x y v u Q I rx ry h
  obtain ⟨l, k, xs, rfl, rfl, hT, h1, h2, q1, q0, hk⟩ := h
  cases rx
  obtain ⟨t, rfl⟩ := ry
  obtain ⟨its, r, ⟨⟨cls, dd, data, sl⟩, ho, hc, n, hd⟩, hs⟩ := I.tuple hT
  simp only at hc hd
  subst hc hd
  have hle : its.length = xs.length := r.length.symm
  have c0 : (decide (k < -(2 ^ 63)) || decide (k ≥ 2 ^ 63)) = false := by
    rw [decide_eq_false (by omega), decide_eq_false (by omega)] <;> rfl
  by_cases h0 : xs = [] ∨ k = 1
  · have c1 : (its.toArray.isEmpty || k == 1) = true := by
      rcases h0 with h0 | h0
      · have : its = [] := List.eq_nil_of_length_eq_zero (by rw [hle, h0]; rfl)
        rw [this]; rfl
      · rw [h0]; simp
    refine wpAny_binaryOp_repeat_ref (T := "tuple") (U := "int") (by decide) ⟨_, ho, rfl⟩ (fun s' => typeIs_int s' k t) noFill_tuple_mul F.fills_int_mul F.slot_int_rmul repeat_tuple F.slot_int_index.lookup
      (call_meets F.slot_int_rmul (typeIs_int s k t) F.entry_int_rmul (F.args_int_rmul_2 _ _) (int_rmul_tuple k t l its.toArray n dd sl)
        ⟨ho, rfl, ⟨_, ho, rfl⟩, call_meets F.slot_tuple_mul ⟨_, ho, rfl⟩ F.entry_tuple_mul (F.args_tuple_mul_2 _ _) (tuple_mul1 l its.toArray n k t c0 c1) ⟨⟨dd, sl, ho⟩, ?_⟩⟩)
    exact ⟨.ref l, H, I, rfl, q1 h0⟩
  · have hne : xs ≠ [] := fun e => h0 (.inl e)
    have hk0 : k = 0 := by
      rcases hk with e | e | e
      · exact absurd e hne
      · exact absurd (.inr e) h0
      · exact e
    have hn : its ≠ [] := fun e => hne (by rw [e] at hle; exact List.eq_nil_of_length_eq_zero hle.symm)
    have hi : its.toArray.isEmpty = false := by
      cases its with
      | nil => exact absurd rfl hn
      | cons a b => rfl
    have c1 : (its.toArray.isEmpty || k == 1) = false := by rw [hi, hk0]; rfl
    have c2 : (decide (k ≤ 0) || its.toArray.isEmpty) = true := by rw [hk0]; rfl
    refine wpAny_binaryOp_repeat_ref (T := "tuple") (U := "int") (by decide) ⟨_, ho, rfl⟩ (fun s' => typeIs_int s' k t) noFill_tuple_mul F.fills_int_mul F.slot_int_rmul repeat_tuple F.slot_int_index.lookup
      (call_meets F.slot_int_rmul (typeIs_int s k t) F.entry_int_rmul (F.args_int_rmul_2 _ _) (int_rmul_tuple k t l its.toArray n dd sl)
        ⟨ho, rfl, ⟨_, ho, rfl⟩, call_meets F.slot_tuple_mul ⟨_, ho, rfl⟩ F.entry_tuple_mul (F.args_tuple_mul_2 _ _) (tuple_mul0 l its.toArray n dd sl k t c0 c1 c2) ⟨ho, ?_⟩⟩)
    refine ⟨.ref s.heap.objs.size, _, I.laid (t' := s.toks) (o := .tup []) (fun b ob q => Heap.get?_push_of_some _ q) (Nat.le_refl _) ?_, rfl, q0 hne hk0 _ (I.hok.fresh (Nat.le_refl _))⟩
    exact ⟨by simp, [], .nil, IsTup.new _ _⟩
theorem rep0 {α : Type} (x : List α) : rep x 0 = [] := rfl
theorem rep1 {α : Type} (x : List α) : rep x 1 = x := by simp [rep]
theorem rep_nil {α : Type} (n : Nat) : rep ([] : List α) n = [] := List.eq_nil_of_length_eq_zero (by rw [rep_len]; simp)
theorem op_mulD (hK : X.K = G.K) : OpR X (binaryOp .Mult) (r2D G E mulD) := by
  intro pins s σ H u v uu vv Q I ru rv ⟨ι, x, y, h, S, dx, dy, p⟩
  unfold mulD at p
  split at p
  · split at p
    · rename_i hl
      rw [dx.int_inv] at ru; rw [dy.int_inv] at rv
      refine op_mul pins s σ H _ _ uu vv Q I ru rv ⟨_, _, rfl, rfl, ?_, p.ok S .int⟩
      unfold CMul; exact hl
    · exact p.elim
  · split at p
    · rename_i x n hl
      obtain ⟨e1, s1⟩ := dx.str_inv
      rw [e1] at ru; rw [dy.int_inv] at rv
      obtain ⟨t, rfl⟩ := ru
      obtain ⟨t', rfl⟩ := rv
      have sk : SOk (rep x n.toNat) := ⟨by rw [rep_len]; exact hl.2.2, fun c hc => s1.2 c (rep_mem hc)⟩
      refine SB.mul ⟨?_, fun h1 _ => ?_, fun h1 _ => ?_⟩ fun t'' k => ⟨.str (toStr (rep x n.toNat)), H, I.tok k, ⟨t'', ?_⟩, p.ok S (.str sk)⟩
      · rw [decide_eq_false (by omega), decide_eq_false (by omega)] <;> rfl
      · rw [toStr_len]
        have a1 : (1048576 : Int) ≤ (2 ^ 63 - 1) / n := by
          apply Int.le_ediv_of_mul_le (by omega)
          have : (1048576 : Int) * n ≤ 1048576 * 1048576 := Int.mul_le_mul_of_nonneg_left (by omega) (by omega)
          omega
        have a2 : x.length * 1 ≤ x.length * n.toNat := Nat.mul_le_mul_left _ (by omega)
        have a3 : (16777216 : Int) ≤ (2 ^ 63 - 1) / n := by
          apply Int.le_ediv_of_mul_le (by omega)
          have : (16777216 : Int) * n ≤ 16777216 * 1048576 := Int.mul_le_mul_of_nonneg_left (by omega) (by omega)
          omega
        have := hl.2.2
        show ¬ ((x.length : Int) > (2 ^ 63 - 1) / n)
        have : (x.length : Int) ≤ 16777216 := by
          have h3 : x.length * n.toNat ≤ 16777216 := hl.2.2
          omega
        omega
      · rw [toStr_len]
        unfold Builtin.Str.tooLong
        rw [sizeLine_eq]
        exact decide_eq_false (by have h3 : x.length * n.toNat ≤ 16777216 := hl.2.2; omega)
      · rw [mul_toStr _ _ hl.1]
    · exact p.elim
  · split at p
    · rename_i xs n hl
      obtain ⟨a, vs, rfl, t1, l1, q1⟩ := dx.tup_inv
      rw [dy.int_inv] at rv
      have le : vs = [] ↔ xs = [] := ⟨fun e => List.eq_nil_of_length_eq_zero (by rw [q1.length, e]; rfl), fun e => List.eq_nil_of_length_eq_zero (by rw [← q1.length, e]; rfl)⟩
      by_cases hc : vs = [] ∨ n = 1 ∨ n = 0
      · refine op_rep01 pins s σ H _ _ uu vv Q I ru rv ⟨a, n, vs, rfl, rfl, by rw [hK]; exact t1, hl.1, by omega, fun e => ?_, fun e1 e2 b hb => ?_, hc⟩
        · have : rep xs n.toNat = xs := by
            rcases e with e | e
            · rw [le.mp e, rep_nil]
            · subst e; exact rep1 xs
          rw [this] at p
          exact p.ok S (.tup t1 l1 q1)
        · subst e2
          exact p.newTup S (by simp [rep0]) (by simpa [rep0] using DVs.nil) hb
      · have hn : vs ≠ [] := fun e => hc (.inl e)
        refine op_repT pins s σ H _ _ uu vv Q I ru rv ⟨a, n, vs, rfl, rfl, by rw [hK]; exact t1, hn, by omega, by omega, by rw [← q1.length]; omega, fun b hb => ?_⟩
        refine p.newTup S ?_ (q1.rep _) hb
        rw [rep_len]
        have a1 : xs.length * n.toNat ≤ 1000 * 1000 := Nat.mul_le_mul hl.2.2 (by omega)
        show _ ≤ 16777216
        omega
    · exact p.elim
  · split at p
    · split at p
      · rename_i m n o1 xs e1 hl
        obtain ⟨a, rfl, i1⟩ := dx.ref_inv
        obtain ⟨vs, h1, _, q1⟩ := S.lst e1 i1
        rw [dy.int_inv] at rv
        refine op_rep pins s σ H _ _ uu vv Q I ru rv ⟨a, n, vs, rfl, rfl, h1, by omega, by omega, ?_, fun c hc => p.newLst S ?_ (q1.rep _) hc⟩
        · rw [← q1.length, sizeLine_eq]; exact hl.2.2
        · rw [rep_len]; exact hl.2.2
      · exact p.elim
    · exact p.elim
  · exact p.elim
end
end MI
end

section
set_option Elab.async false
set_option linter.all false
set_option maxRecDepth 100000
set_option maxHeartbeats 1000000
/-! MI4: comparisons, truth. -/
namespace MI
open PySem PySem.Spec PyProof.Rows L2
mutual
def toPy : D → PyData
  | .non => .none
  | .bl b => .bool b
  | .int i => .int i
  | .str x => .str (toStr x)
  | .tup ds => .tuple (toPys ds)
  | .lst ds => .list (toPys ds)
  | _ => .none
def toPys : List D → List PyData
  | [] => []
  | d :: ds => toPy d :: toPys ds
end
mutual
/-- data alone -/
def dat : D → Bool
  | .non => true
  | .bl _ => true
  | .int _ => true
  | .str _ => true
  | .tup ds => dats ds
  | .lst ds => dats ds
  | _ => false
def dats : List D → Bool
  | [] => true
  | d :: ds => dat d && dats ds
end
mutual
theorem depth_toPy : ∀ d : D, (toPy d).depth = dep d
  | .non => by simp [toPy, PyData.depth, dep]
  | .bl b => by simp [toPy, PyData.depth, dep]
  | .int i => by simp [toPy, PyData.depth, dep]
  | .str x => by simp [toPy, PyData.depth, dep]
  | .tup ds => by simp [toPy, PyData.depth, dep, depth_toPys ds]
  | .lst ds => by simp [toPy, PyData.depth, dep, depth_toPys ds]
  | .ref n => by simp [toPy, PyData.depth, dep]
  | .fn n => by simp [toPy, PyData.depth, dep]
  | .cls n => by simp [toPy, PyData.depth, dep]
  | .ty n => by simp [toPy, PyData.depth, dep]
theorem depth_toPys : ∀ ds : List D, PyData.depthAll (toPys ds) = deps ds
  | [] => by simp [toPys, PyData.depthAll, deps]
  | d :: ds => by simp [toPys, PyData.depthAll, deps, depth_toPy d, depth_toPys ds]
end
theorem toStr_beq (x y : S) : (toStr x == toStr y) = (x == y) := by
  by_cases h : x = y
  · subst h; simp
  · rw [beq_eq_false_iff_ne.mpr h, beq_eq_false_iff_ne.mpr fun e => h (toStr_inj e)]
mutual
theorem eqv_toPy : ∀ d e : D, dat d = true → dat e = true → PyData.eqv (toPy d) (toPy e) = eqv d e
  | .non, e, _, h => by cases e <;> simp [dat] at h <;> simp [toPy, PyData.eqv, eqv]
  | .bl b, e, _, h => by cases e <;> simp [dat] at h <;> simp [toPy, PyData.eqv, eqv]
  | .int i, e, _, h => by cases e <;> simp [dat] at h <;> simp [toPy, PyData.eqv, eqv]
  | .str x, e, _, h => by cases e <;> simp [dat] at h <;> simp [toPy, PyData.eqv, eqv, toStr_beq]
  | .tup ds, e, h1, h => by
    cases e with
    | tup es =>
      have h1' : dats ds = true := by simpa [dat] using h1
      have h2' : dats es = true := by simpa [dat] using h
      simp only [toPy, PyData.eqv, eqv]
      exact eqv_toPys ds es h1' h2'
    | _ => simp [dat] at h <;> simp [toPy, PyData.eqv, eqv]
  | .lst ds, e, h1, h => by
    cases e with
    | lst es =>
      have h1' : dats ds = true := by simpa [dat] using h1
      have h2' : dats es = true := by simpa [dat] using h
      simp only [toPy, PyData.eqv, eqv]
      exact eqv_toPys ds es h1' h2'
    | _ => simp [dat] at h <;> simp [toPy, PyData.eqv, eqv]
  | .ref n, e, h, _ => by simp [dat] at h
  | .fn n, e, h, _ => by simp [dat] at h
  | .cls n, e, h, _ => by simp [dat] at h
  | .ty n, e, h, _ => by simp [dat] at h
theorem eqv_toPys : ∀ ds es : List D, dats ds = true → dats es = true → PyData.eqvAll (toPys ds) (toPys es) = eqvs ds es
  | [], [], _, _ => by simp [toPys, PyData.eqvAll, eqvs]
  | [], e :: es, _, _ => by simp [toPys, PyData.eqvAll, eqvs]
  | d :: ds, [], _, _ => by simp [toPys, PyData.eqvAll, eqvs]
  | d :: ds, e :: es, h1, h2 => by
    simp only [dats, Bool.and_eq_true] at h1 h2
    simp only [toPys, PyData.eqvAll, eqvs, eqv_toPy d e h1.1 h2.1, eqv_toPys ds es h1.2 h2.2]
end
theorem strOk_of {x : S} (h : SOk x) : PyData.strOk (toStr x) = true := by
  unfold PyData.strOk toStr
  rw [Array.all_eq_true']
  intro c hc
  exact decide_eq_true (h.2 c (by simpa using hc))
section
variable {G : Gm} {ι : List Addr} {H : Hp} {h : Hs}
/-- the value is this data -/
structure DatOf (G : Gm) (H : Hp) (v : V) (e : D) : Prop where
  dp : Dp G.K H v (toPy e)
  ok : (toPy e).canLay0 = true
  dt : dat e = true
structure DatsOf (G : Gm) (H : Hp) (vs : List V) (es : List D) : Prop where
  dp : DpAll G.K H vs (toPys es)
  ok : PyData.canLayAll0 (toPys es) = true
  dt : dats es = true
mutual
theorem exT_ok {f : Nat → Option D} (hf : ∀ n e a, f n = some e → ι[n]? = some a → DatOf G H (.ref a) e) : ∀ (d e : D) (v : V), exT f d = some e → DV G H ι d v → DatOf G H v e
  | .non, e, v, h, q => by
    simp only [exT, Option.some.injEq] at h; subst h
    rw [q.non_inv]
    exact ⟨.non, rfl, rfl⟩
  | .bl b, e, v, h, q => by
    simp only [exT, Option.some.injEq] at h; subst h
    rw [q.bl_inv]
    exact ⟨.bl b, rfl, rfl⟩
  | .int i, e, v, h, q => by
    simp only [exT, Option.some.injEq] at h; subst h
    rw [q.int_inv]
    exact ⟨.int i, rfl, rfl⟩
  | .str x, e, v, h, q => by
    simp only [exT, Option.some.injEq] at h; subst h
    rw [q.str_inv.1]
    exact ⟨.str _, by simp only [toPy, PyData.canLay0]; exact strOk_of q.str_inv.2, rfl⟩
  | .tup ds, e, v, h, q => by
    simp only [exT, Option.map_eq_some_iff] at h
    obtain ⟨es, h, rfl⟩ := h
    obtain ⟨a, vs, rfl, s, _, qs⟩ := q.tup_inv
    have r := exTs_ok hf ds es vs h qs
    exact ⟨by simp only [toPy]; exact .tup s r.dp, by simp only [toPy, PyData.canLay0]; exact r.ok, by simp only [dat]; exact r.dt⟩
  | .lst ds, e, v, h, q => by
    simp only [exT, Option.map_eq_some_iff] at h
    obtain ⟨es, h, rfl⟩ := h
    obtain ⟨a, vs, rfl, s, _, qs⟩ := q.lst_inv
    have r := exTs_ok hf ds es vs h qs
    exact ⟨by simp only [toPy]; exact .lst s r.dp, by simp only [toPy, PyData.canLay0]; exact r.ok, by simp only [dat]; exact r.dt⟩
  | .ref n, e, v, h, q => by
    simp only [exT] at h
    obtain ⟨a, rfl, i⟩ := q.ref_inv
    exact hf n e a h i
  | .fn _, _, _, h, _ => by simp [exT] at h
  | .cls _, _, _, h, _ => by simp [exT] at h
  | .ty _, _, _, h, _ => by simp [exT] at h
theorem exTs_ok {f : Nat → Option D} (hf : ∀ n e a, f n = some e → ι[n]? = some a → DatOf G H (.ref a) e) : ∀ (ds es : List D) (vs : List V), exTs f ds = some es → DVs G H ι ds vs → DatsOf G H vs es
  | [], es, vs, h, q => by
    simp only [exTs, Option.some.injEq] at h; subst h
    rw [q.nil_inv]
    exact ⟨.nil, rfl, rfl⟩
  | d :: ds, es, vs, h, q => by
    simp only [exTs] at h
    split at h
    · cases h
      obtain ⟨v, r, rfl, q1, q2⟩ := q.cons_inv
      have a := exT_ok hf d _ v (by assumption) q1
      have b := exTs_ok hf ds _ r (by assumption) q2
      exact ⟨by simp only [toPys]; exact .cons a.dp b.dp, by simp only [toPys, PyData.canLayAll0, a.ok, b.ok, Bool.and_self], by simp only [dats, a.dt, b.dt, Bool.and_self]⟩
    · cases h
end
theorem exR_ok (s : SimH G ι h H) : ∀ (k n : Nat) (e : D) (a : Addr), exR h k n = some e → ι[n]? = some a → DatOf G H (.ref a) e
  | 0, n, e, a, q, _ => by simp [exR] at q
  | k + 1, n, e, a, q, i => by
    have main : ∀ ds, seqOf h n = some ds → (exTs (exR h k) ds).map D.lst = some e → DatOf G H (.ref a) e := fun ds hs hm => by
      obtain ⟨es, hm2, rfl⟩ := Option.map_eq_some_iff.mp hm
      obtain ⟨vs, s1, _, s2⟩ := s.seq hs i
      have r := exTs_ok (fun n e a => exR_ok s k n e a) ds es vs hm2 s2
      exact ⟨by simp only [toPy]; exact .lst s1 r.dp, by simp only [toPy, PyData.canLay0]; exact r.ok, by simp only [dat]; exact r.dt⟩
    simp only [exR] at q
    split at q
    · rename_i ds hd; exact main ds (by simp [seqOf, hd]) q
    · cases q
theorem ex_ok (s : SimH G ι h H) {d e : D} {v : V} (q : ex h d = some e) (r : DV G H ι d v) : DatOf G H v e := exT_ok (fun n e a => exR_ok s 8 n e a) d e v q r
end
/-- a comparison's reading -/
def r2B (G : Gm) (f : D → D → Hs → Option Bool) : R2 := fun u v H Q => ∃ ι x y h b, SimH G ι h H ∧ DV G H ι x u ∧ DV G H ι y v ∧ f x y h = some b ∧ Q (.bl b) H
section
variable {G : Gm} {X : Cx}
theorem op_eqB (hK : X.K = G.K) (hu : X.A.units + 64 < cLine) : OpR X (compareOp .Eq) (r2B G fun a b h => eqB h a b) := by
  intro pins s σ H u v uu vv Q I ru rv ⟨ι, x, y, h, b, S, dx, dy, e, q⟩
  replace e : eqB h x y = some b := e
  unfold eqB at e
  split at e
  · rename_i a c ha hc
    split at e
    · rename_i hm
      cases e
      have d1 := ex_ok S ha dx
      have d2 := ex_ok S hc dy
      have p1 := d1.dp
      have p2 := d2.dp
      rw [← hK] at p1 p2
      obtain ⟨as, r1⟩ := Dp.reads I _ u uu p1 ru
      obtain ⟨bs, r2⟩ := Dp.reads I _ v vv p2 rv
      refine SeqAt.compareEq_reads r1 r2 d1.ok d2.ok ?_ ⟨.bl _, H, I, rfl, ?_⟩
      · rw [depth_toPy, depth_toPy]; omega
      · rw [eqv_toPy _ _ d1.dt d2.dt]; exact q
    · cases e
  · cases e
theorem op_neB (hK : X.K = G.K) (hu : X.A.units + 64 < cLine) : OpR X (compareOp .NotEq) (r2B G fun a b h => (eqB h a b).map (!·)) := by
  intro pins s σ H u v uu vv Q I ru rv ⟨ι, x, y, h, b, S, dx, dy, e0, q⟩
  obtain ⟨b', e, rfl⟩ := Option.map_eq_some_iff.mp e0
  clear e0
  unfold eqB at e
  split at e
  · rename_i a c ha hc
    split at e
    · rename_i hm
      cases e
      have d1 := ex_ok S ha dx
      have d2 := ex_ok S hc dy
      have p1 := d1.dp
      have p2 := d2.dp
      rw [← hK] at p1 p2
      obtain ⟨as, r1⟩ := Dp.reads I _ u uu p1 ru
      obtain ⟨bs, r2⟩ := Dp.reads I _ v vv p2 rv
      refine SeqAt.compareNe_reads r1 r2 d1.ok d2.ok ?_ ⟨.bl _, H, I, rfl, ?_⟩
      · rw [depth_toPy, depth_toPy]; omega
      · rw [eqv_toPy _ _ d1.dt d2.dt]; exact q
    · cases e
  · cases e
/-- items as data -/
theorem items_ok {ι : List Addr} {H : Hp} {h : Hs} (s : SimH G ι h H) {ds es : List D} {vs : List V} (e : exTs (exR h 8) ds = some es) (q : DVs G H ι ds vs) : DatsOf G H vs es := exTs_ok (fun n e a => exR_ok s 8 n e a) ds es vs e q
theorem any_toPys (e : D) (he : dat e = true) : ∀ es : List D, dats es = true → (toPys es).any (fun z => PyData.eqv z (toPy e)) = es.any fun z => eqv z e
  | [], _ => rfl
  | d :: ds, h => by
    simp only [dats, Bool.and_eq_true] at h
    simp only [toPys, List.any_cons, any_toPys e he ds h.2, eqv_toPy d e h.1 he]
theorem in_core (hK : X.K = G.K) (hu : X.A.units + 65 < cLine) {pins : List (Addr × Obj)} {s : Shared} {σ : L2.St} {H : Hp} {u v : V} {uu vv : Value} {ι : List Addr} {x y : D} {h : Hs} {b : Bool} (I : Inv X pins σ H s) (ru : RelV u uu) (rv : RelV v vv) (S : SimH G ι h H) (dx : DV G H ι x u) (dy : DV G H ι y v) (e : isIn x y h = some b) :
    (∀ E (Q : Value → Shared → Prop), Q (.bool b) s → wpAny (model X.prog X.w) X.A (compareOp .In uu vv) Q E s) ∧ (∀ E (Q : Value → Shared → Prop), Q (.bool (!b)) s → wpAny (model X.prog X.w) X.A (compareOp .NotIn uu vv) Q E s) := by
  unfold isIn at e
  split at e
  · rename_i ds
    unfold inItems at e
    split at e
    · rename_i es z h1 h2
      split at e
      · rename_i hm
        cases e
        obtain ⟨a, vs, rfl, t, _, q⟩ := dy.tup_inv
        have d1 := items_ok S h1 q
        have d2 := ex_ok S h2 dx
        have p1 : Dp G.K H (.ref a) (.tuple (toPys es)) := .tup t d1.dp
        have p2 := d2.dp
        rw [← hK] at p1 p2
        obtain ⟨as, r1⟩ := Dp.reads I _ _ vv p1 rv
        obtain ⟨bs, r2⟩ := Dp.reads I _ u uu p2 ru
        have hr : X.A.units + 1 + min (PyData.depthAll (toPys es)) (toPy z).depth < cLine := by rw [depth_toPy, depth_toPys]; omega
        exact ⟨fun E Q h => SeqAt.in_tuple_reads r1 r2 d1.ok d2.ok hr (by rw [any_toPys z d2.dt es d1.dt]; exact h), fun E Q h => SeqAt.notIn_tuple_reads r1 r2 d1.ok d2.ok hr (by rw [any_toPys z d2.dt es d1.dt]; exact h)⟩
      · cases e
    · cases e
  · split at e
    · rename_i n ds hs
      unfold inItems at e
      split at e
      · rename_i es z h1 h2
        split at e
        · rename_i hm
          cases e
          obtain ⟨a, rfl, i⟩ := dy.ref_inv
          obtain ⟨vs, t, _, q⟩ := S.seq hs i
          have d1 := items_ok S h1 q
          have d2 := ex_ok S h2 dx
          have p1 : Dp G.K H (.ref a) (.list (toPys es)) := .lst t d1.dp
          have p2 := d2.dp
          rw [← hK] at p1 p2
          obtain ⟨as, r1⟩ := Dp.reads I _ _ vv p1 rv
          obtain ⟨bs, r2⟩ := Dp.reads I _ u uu p2 ru
          have hr : X.A.units + 1 + min (PyData.depthAll (toPys es)) (toPy z).depth < cLine := by rw [depth_toPy, depth_toPys]; omega
          exact ⟨fun E Q h => SeqAt.in_list_reads r1 r2 d1.ok d2.ok hr (by rw [any_toPys z d2.dt es d1.dt]; exact h), fun E Q h => SeqAt.notIn_list_reads r1 r2 d1.ok d2.ok hr (by rw [any_toPys z d2.dt es d1.dt]; exact h)⟩
        · cases e
      · cases e
    · cases e
  · rename_i ds
    unfold inItems at e
    split at e
    · rename_i es z h1 h2
      split at e
      · rename_i hm
        cases e
        obtain ⟨a, vs, rfl, t, _, q⟩ := dy.lst_inv
        have d1 := items_ok S h1 q
        have d2 := ex_ok S h2 dx
        have p1 : Dp G.K H (.ref a) (.list (toPys es)) := .lst t d1.dp
        have p2 := d2.dp
        rw [← hK] at p1 p2
        obtain ⟨as, r1⟩ := Dp.reads I _ _ vv p1 rv
        obtain ⟨bs, r2⟩ := Dp.reads I _ u uu p2 ru
        have hr : X.A.units + 1 + min (PyData.depthAll (toPys es)) (toPy z).depth < cLine := by rw [depth_toPy, depth_toPys]; omega
        exact ⟨fun E Q h => SeqAt.in_list_reads r1 r2 d1.ok d2.ok hr (by rw [any_toPys z d2.dt es d1.dt]; exact h), fun E Q h => SeqAt.notIn_list_reads r1 r2 d1.ok d2.ok hr (by rw [any_toPys z d2.dt es d1.dt]; exact h)⟩
      · cases e
    · cases e
  · rename_i y
    split at e
    · rename_i c
      cases e
      obtain ⟨e1, _⟩ := dx.str_inv; obtain ⟨e2, _⟩ := dy.str_inv
      subst e1 e2
      obtain ⟨t, rfl⟩ := ru
      obtain ⟨t', rfl⟩ := rv
      have hh : (!(Builtin.Str.occurrences (toStr y) (toStr [c]) 0 (toStr y).length 1).isEmpty) = decide (c ∈ y) := by
        have := StrLaws.found_one (toStr y) c
        exact this
      refine ⟨fun E Q h => ?_, fun E Q h => ?_⟩
      · refine PyProof.Rows.in_str ?_
        rw [hh]; exact h
      · refine PyProof.Rows.notIn_str ?_
        rw [hh]; exact h
    · cases e
  · cases e
theorem op_inB (hK : X.K = G.K) (hu : X.A.units + 65 < cLine) : OpR X (compareOp .In) (r2B G isIn) := by
  intro pins s σ H u v uu vv Q I ru rv ⟨ι, x, y, h, b, S, dx, dy, e, q⟩
  exact (in_core hK hu I ru rv S dx dy e).1 _ _ ⟨.bl b, H, I, rfl, q⟩
theorem op_ninB (hK : X.K = G.K) (hu : X.A.units + 65 < cLine) : OpR X (compareOp .NotIn) (r2B G fun a b h => (isIn a b h).map (!·)) := by
  intro pins s σ H u v uu vv Q I ru rv ⟨ι, x, y, h, b, S, dx, dy, e0, q⟩
  obtain ⟨b', e, rfl⟩ := Option.map_eq_some_iff.mp e0
  exact (in_core hK hu I ru rv S dx dy e).2 _ _ ⟨.bl _, H, I, rfl, q⟩
theorem op_ltIB {op : CmpOp} {f : Int → Int → Bool} (ho : OpR X (compareOp op) (rI0 fun i j => .bl (f i j))) : OpR X (compareOp op) (r2B G fun a b _ => ltI f a b) := by
  intro pins s σ H u v uu vv Q I ru rv ⟨ι, x, y, h, b, S, dx, dy, e, q⟩
  replace e : ltI f x y = some b := e
  unfold ltI at e
  split at e
  · cases e
    rw [dx.int_inv] at ru; rw [dy.int_inv] at rv
    exact ho pins s σ H _ _ uu vv Q I ru rv ⟨_, _, rfl, rfl, q⟩
  · cases e
theorem isNone_ok {ι : List Addr} {H : Hp} {x : D} {u : V} (d : DV G H ι x u) : decide (u = .non) = isNone x := by
  cases x with
  | non => rw [d.non_inv]; rfl
  | bl b => rw [d.bl_inv]; rfl
  | int b => rw [d.int_inv]; rfl
  | str b => rw [d.str_inv.1]; rfl
  | tup b => obtain ⟨_, _, rfl, _⟩ := d.tup_inv; rfl
  | ref b => obtain ⟨_, rfl, _⟩ := d.ref_inv; rfl
  | lst b => obtain ⟨_, _, rfl, _⟩ := d.lst_inv; rfl
  | fn b => unfold DV at d; obtain ⟨_, rfl, _⟩ := d; rfl
  | cls b => unfold DV at d; obtain ⟨_, rfl, _⟩ := d; rfl
  | ty b => unfold DV at d; rw [d]; rfl
theorem op_isB : OpR X (compareOp .Is) (r2B G fun a b _ => isD a b false) := by
  intro pins s σ H u v uu vv Q I ru rv ⟨ι, x, y, h, b, S, dx, dy, e, q⟩
  replace e : isD x y false = some b := e
  unfold isD at e
  split at e
  · cases e
    have := dy.non_inv
    subst this
    exact op_isN pins s σ H _ _ uu vv Q I ru rv ⟨rfl, by rw [isNone_ok dx]; exact q⟩
  · cases e
theorem op_isnB : OpR X (compareOp .IsNot) (r2B G fun a b _ => isD a b true) := by
  intro pins s σ H u v uu vv Q I ru rv ⟨ι, x, y, h, b, S, dx, dy, e, q⟩
  replace e : isD x y true = some b := e
  unfold isD at e
  split at e
  · cases e
    have := dy.non_inv
    subst this
    exact op_notN pins s σ H _ _ uu vv Q I ru rv ⟨rfl, by rw [isNone_ok dx]; exact q⟩
  · cases e
/-- a value's truth -/
theorem truth_ok (hK : X.K = G.K) {ι : List Addr} {H : Hp} {h : Hs} {x : D} {u : V} {b : Bool} (S : SimH G ι h H) (d : DV G H ι x u) (e : truth h x = some b) : TruV X.K u H b := by
  have emp : ∀ {ds : List D} {vs : List V}, DVs G H ι ds vs → (!ds.isEmpty) = !vs.isEmpty := fun {ds vs} q => by
    cases ds with
    | nil => rw [q.nil_inv]; rfl
    | cons d ds => obtain ⟨v, r, rfl, _⟩ := q.cons_inv; rfl
  cases x with
  | non => rw [d.non_inv]; cases e; rfl
  | bl c => rw [d.bl_inv]; cases e; rfl
  | int c => rw [d.int_inv]; cases e; rfl
  | str c =>
    obtain ⟨e1, e2⟩ := d.str_inv
    rw [e1]; cases e
    refine ⟨?_, ?_⟩
    · rw [toStr_len, sizeLine_eq]; exact e2.1
    · rw [toStr_len]; cases c <;> rfl
  | tup ds =>
    obtain ⟨a, vs, rfl, t, _, q⟩ := d.tup_inv
    cases e
    rw [← hK] at t
    exact .inr (.inl ⟨vs, t, emp q⟩)
  | ref n =>
    obtain ⟨a, rfl, i⟩ := d.ref_inv
    simp only [truth] at e
    split at e
    · rename_i ds hd
      cases e
      obtain ⟨vs, t, _, q⟩ := S.seq (ds := ds) (by simp [seqOf, hd]) i
      rw [← hK] at t
      exact .inl ⟨vs, t, emp q⟩
    · rename_i ds hd
      cases e
      obtain ⟨vs, t, _, q⟩ := S.dct hd i
      refine .inr (.inr ⟨vs, t, ?_⟩)
      cases ds with
      | nil => unfold KVs at q; subst q; rfl
      | cons p ds => obtain ⟨k, v⟩ := p; unfold KVs at q; obtain ⟨_, _, _, rfl, _⟩ := q; rfl
    · cases e
  | lst ds =>
    obtain ⟨a, vs, rfl, t, _, q⟩ := d.lst_inv
    cases e
    rw [← hK] at t
    exact .inl ⟨vs, t, emp q⟩
  | fn b => simp [truth] at e
  | cls b => simp [truth] at e
  | ty b => simp [truth] at e
end
end MI
end

section
set_option Elab.async false
set_option linter.all false
set_option maxRecDepth 100000
set_option maxHeartbeats 1000000
/-! MI5: items, slices, built-ins, methods. -/
namespace MI
open PySem PySem.Spec PyProof.Rows L2
theorem ixN_eq (n : Nat) (i : Int) : MI.ixN n i = L2.ixN n i := by
  unfold MI.ixN L2.ixN
  by_cases h : 0 ≤ i
  · rw [if_pos h, if_pos h]
    by_cases h2 : i.toNat < n
    · rw [if_pos h2, if_pos (by omega)]
    · rw [if_neg h2, if_neg (by omega)]
  · rw [if_neg h, if_neg h]
    by_cases h2 : (-i).toNat ≤ n
    · rw [if_pos h2, if_pos (by omega)]
      congr 1
      omega
    · rw [if_neg h2, if_neg (by omega)]
theorem ixN_lt {n : Nat} {i : Int} {k : Nat} (h : MI.ixN n i = some k) : k < n := by
  unfold MI.ixN at h
  split at h
  · split at h
    · cases h; assumption
    · cases h
  · split at h
    · cases h; omega
    · cases h
theorem atI_of {α : Type} {xs : List α} {n : Nat} {i : Int} {k : Nat} {x : α} (hn : xs.length = n) (h : MI.ixN n i = some k) (e : xs[k]? = some x) : atI xs i = some x := by
  unfold atI
  rw [hn, ← ixN_eq, h]
  exact e
theorem ix_dict (hu : X.A.units + 1 < cLine) : IxR X (fun x y H Q => ∃ a v, x = .ref a ∧ DGet H a y (some v) ∧ Q v H) := by
  intro value slice pins s σ H x y ov iv Q I rx ry h hs
  obtain ⟨a, v, rfl, g, q⟩ := h
  obtain rfl : ov = Value.ref a := rx
  have hT := dict_typeIs I g
  unfold subscriptTail
  refine wpAny_bind ?_
  rw [getitemInPython_of_ne hT.not_modules]
  refine wpAny_bind (wpAny_specialOf hT PySem.F.slot_dict_getitem.lookup ?_)
  have fin : wpAny (model X.prog X.w) X.A (subscripted slice false (.ref a) iv) (fun r s₃ => wpAny (model X.prog X.w) X.A (letTemporaryGo value (.ref a) r >>= fun _ => pure r) (EP X pins σ Q) X.xe s₃) X.xe s := by
    rw [hs]
    exact wpAny_operating (wpAny_mono (d_getItem (Q := EP X pins σ Q) (E := X.xe) hu I g ry fun w' s3 I3 rw' => ⟨v, H, I3, rw', q⟩) (fun r s₃ h₃ => wpAny_bind (wpAny_letTemporaryGo (wpAny_pure h₃))) fun _ _ x => x)
  first
    | exact wpAny_pure (wpAny_bind fin)
    | exact wpAny_bind (wpAny_pure (wpAny_bind fin))
    | exact wpAny_bind fin
section
variable {G : Gm} {E : XW} {X : Cx} {ι : List Addr} {H : Hp} {h : Hs}
theorem itemAt_inv {ds : List D} {i : Int} {d : D} (e : itemAt ds i = some d) : ∃ k, MI.ixN ds.length i = some k ∧ ds[k]? = some d := by
  unfold itemAt at e
  split at e
  · exact ⟨_, by assumption, e⟩
  · cases e
theorem atI_item {ds : List D} {vs : List V} {i : Int} {d : D} (q : DVs G H ι ds vs) (e : itemAt ds i = some d) : ∃ v, atI vs i = some v ∧ DV G H ι d v := by
  obtain ⟨k, h1, h2⟩ := itemAt_inv e
  obtain ⟨v, h3, h4⟩ := q.get h2
  exact ⟨v, atI_of q.length.symm h1 h3, h4⟩
theorem SOk.one {c : Nat} (h : c < 1114112) : SOk [c] := ⟨by show 1 ≤ 16777216; decide, fun d hd => by rw [List.mem_singleton.mp hd]; exact h⟩
/-- the key that a value is -/
theorem keyOf {k : D} {v : V} (hk : isKey k = true) (d : DV G H ι k v) : ∃ kk : Key, v = kV kk ∧ ((∃ i, k = .int i ∧ kk = .inl i) ∨ (∃ x, k = .str x ∧ kk = .inr (toStr x) ∧ SOk x)) := by
  cases k with
  | int i => rw [d.int_inv]; exact ⟨.inl i, rfl, .inl ⟨i, rfl, rfl⟩⟩
  | str x => obtain ⟨e, s⟩ := d.str_inv; rw [e]; exact ⟨.inr (toStr x), rfl, .inr ⟨x, rfl, rfl, s⟩⟩
  | _ => cases hk
theorem key_eq {k k' : D} {q q' : Key} (a : (∃ i, k = .int i ∧ q = .inl i) ∨ (∃ x, k = .str x ∧ q = .inr (toStr x) ∧ SOk x)) (b : (∃ i, k' = .int i ∧ q' = .inl i) ∨ (∃ x, k' = .str x ∧ q' = .inr (toStr x) ∧ SOk x)) : eqv k k' = decide (q = q') := by
  rcases a with ⟨i, rfl, rfl⟩ | ⟨x, rfl, rfl, _⟩ <;> rcases b with ⟨j, rfl, rfl⟩ | ⟨y, rfl, rfl, _⟩
  · rw [key_ll]; simp [eqv]
  · rw [key_lr]; simp [eqv]
  · rw [key_rl]; simp [eqv]
  · rw [key_rr]
    simp only [eqv]
    by_cases e : x = y
    · subst e; simp
    · rw [beq_eq_false_iff_ne.mpr e, decide_eq_false fun z => e (toStr_inj z)]
theorem dget_ok {k : D} {kk : Key} (hk : (∃ i, k = .int i ∧ kk = .inl i) ∨ (∃ x, k = .str x ∧ kk = .inr (toStr x) ∧ SOk x)) : ∀ {kvs : List (D × D)} {q : List (Key × V)} {d : D}, KVs G H ι kvs q → dget k kvs = some d → ∃ v, valV q kk = some v ∧ DV G H ι d v
  | [], _, _, _, e => by simp [dget] at e
  | (k', c) :: r, q, d, hq, e => by
    unfold KVs at hq
    obtain ⟨kk', v, q', rfl, hk', dv, hr⟩ := hq
    simp only [dget] at e
    rw [key_eq hk' hk] at e
    by_cases z : kk' = kk
    · rw [decide_eq_true z, if_pos rfl] at e
      cases e
      exact ⟨v, valV_pos z, dv⟩
    · rw [decide_eq_false z, if_neg (by decide)] at e
      obtain ⟨w, h1, h2⟩ := dget_ok hk hr e
      exact ⟨w, by rw [valV_neg (p := (kk', v)) z]; exact h1, h2⟩
theorem KVs.length : ∀ {kvs : List (D × D)} {q : List (Key × V)}, KVs G H ι kvs q → kvs.length = q.length
  | [], _, h => by unfold KVs at h; subst h; rfl
  | (k, d) :: r, _, h => by
    unfold KVs at h
    obtain ⟨_, _, q', rfl, _, _, hr⟩ := h
    simp [KVs.length hr]
theorem kvs_any {k : D} {kk : Key} (hk : (∃ i, k = .int i ∧ kk = .inl i) ∨ (∃ x, k = .str x ∧ kk = .inr (toStr x) ∧ SOk x)) : ∀ {kvs : List (D × D)} {q : List (Key × V)}, KVs G H ι kvs q → (kvs.any fun p => eqv p.1 k) = q.any fun p => decide (p.1 = kk)
  | [], _, h => by unfold KVs at h; subst h; rfl
  | (k', d) :: r, _, h => by
    unfold KVs at h
    obtain ⟨kk', v, q', rfl, hk', _, hr⟩ := h
    simp only [List.any_cons]
    rw [key_eq hk' hk, kvs_any hk hr]
theorem kvs_map {k d : D} {kk : Key} {v : V} (hk : (∃ i, k = .int i ∧ kk = .inl i) ∨ (∃ x, k = .str x ∧ kk = .inr (toStr x) ∧ SOk x)) (dv : DV G H ι d v) : ∀ {kvs : List (D × D)} {q : List (Key × V)}, KVs G H ι kvs q →
    KVs G H ι (kvs.map fun p => if eqv p.1 k then (p.1, d) else p) (q.map fun p => if p.1 = kk then (p.1, v) else p)
  | [], _, h => by unfold KVs at h; subst h; unfold KVs; rfl
  | (k', c) :: r, _, h => by
    unfold KVs at h
    obtain ⟨kk', w, q', rfl, hk', dw, hr⟩ := h
    have ih := kvs_map hk dv hr
    simp only [List.map_cons]
    rw [key_eq hk' hk]
    by_cases z : kk' = kk
    · rw [decide_eq_true z, if_pos rfl, if_pos z]
      unfold KVs
      exact ⟨kk', v, _, rfl, hk', dv, ih⟩
    · rw [decide_eq_false z, if_neg (by decide), if_neg z]
      unfold KVs
      exact ⟨kk', w, _, rfl, hk', dw, ih⟩
theorem kvs_snoc {k d : D} {kk : Key} {v : V} (hk : (∃ i, k = .int i ∧ kk = .inl i) ∨ (∃ x, k = .str x ∧ kk = .inr (toStr x) ∧ SOk x)) (dv : DV G H ι d v) : ∀ {kvs : List (D × D)} {q : List (Key × V)}, KVs G H ι kvs q → KVs G H ι (kvs ++ [(k, d)]) (q ++ [(kk, v)])
  | [], _, h => by unfold KVs at h; subst h; unfold KVs; exact ⟨kk, v, [], rfl, hk, dv, rfl⟩
  | (k', c) :: r, _, h => by
    unfold KVs at h
    obtain ⟨kk', w, q', rfl, hk', dw, hr⟩ := h
    have ih := kvs_snoc hk dv hr
    simp only [List.cons_append]
    unfold KVs
    exact ⟨kk', w, _, rfl, hk', dw, ih⟩
theorem dput_ok {k d : D} {kk : Key} {v : V} (hk : (∃ i, k = .int i ∧ kk = .inl i) ∨ (∃ x, k = .str x ∧ kk = .inr (toStr x) ∧ SOk x)) (dv : DV G H ι d v) {kvs : List (D × D)} {q : List (Key × V)} (h : KVs G H ι kvs q) : KVs G H ι (dput k d kvs) (putK q kk v) := by
  unfold dput putK
  rw [kvs_any hk h]
  split
  · exact kvs_map hk dv h
  · exact kvs_snoc hk dv h
theorem dput_len (k d : D) (kvs : List (D × D)) : (dput k d kvs).length ≤ kvs.length + 1 := by
  unfold dput
  split
  · simp
  · simp
/-- a[i] -/
theorem ix_D (hK : X.K = G.K) (hu : X.A.units + 1 < cLine) : IxR X (r2D G E fun x y h => lift h (index x y h)) := by
  intro value slice pins s σ H u v uu vv Q I ru rv ⟨ι, x, y, h, S, dx, dy, p⟩ hs
  replace p : PostD G ι H (lift h (index x y h)) Q E := p
  generalize e : index x y h = o at p
  cases o with
  | none => exact p.elim
  | some d =>
    have seqq : ∀ n ds i, x = .ref n → seqOf h n = some ds → y = .int i → itemAt ds i = some d → wpAny (model X.prog X.w) X.A (subscriptTail value slice uu vv) (EP X pins σ Q) X.xe s := fun n ds i ex hn ey hi => by
      subst ex ey
      obtain ⟨a, rfl, ia⟩ := dx.ref_inv
      obtain ⟨vs, t, _, q⟩ := S.seq hn ia
      obtain ⟨w, hw, dw⟩ := atI_item q hi
      rw [dy.int_inv] at rv
      exact ix_list value slice pins s σ H _ _ uu vv Q I ru rv ⟨a, vs, i, w, rfl, rfl, by rw [hK]; exact t, hw, p.ok S dw⟩ hs
    unfold index at e
    split at e
    · split at e
      · rename_i ds i
        obtain ⟨a, vs, rfl, t, _, q⟩ := dx.tup_inv
        obtain ⟨w, hw, dw⟩ := atI_item q e
        rw [dy.int_inv] at rv
        exact ix_tup value slice pins s σ H _ _ uu vv Q I ru rv ⟨a, vs, i, w, rfl, rfl, by rw [hK]; exact t, hw, p.ok S dw⟩ hs
      · cases e
    · split at e
      · split at e
        · rename_i xs i _ k hk
          obtain ⟨c, hc, rfl⟩ := Option.map_eq_some_iff.mp e
          obtain ⟨e1, sx⟩ := dx.str_inv
          rw [e1] at ru
          rw [dy.int_inv] at rv
          refine ix_str value slice pins s σ H _ _ uu vv Q I ru rv ⟨_, i, c, rfl, rfl, by rw [toStr_len, sizeLine_eq]; exact sx.1, atI_of rfl hk hc, ?_⟩ hs
          exact p.ok S (.str (SOk.one (sx.2 c (List.mem_of_getElem? hc))))
        · cases e
      · cases e
    · rename_i n
      split at e
      · rename_i ds hd
        split at e
        · exact seqq n ds _ rfl (by simp [seqOf, hd]) rfl e
        · cases e
      · rename_i kvs hd
        split at e
        · rename_i hk
          obtain ⟨a, rfl, ia⟩ := dx.ref_inv
          obtain ⟨q, t, _, kq⟩ := S.dct hd ia
          obtain ⟨kk, rfl, hkk⟩ := keyOf hk dy
          obtain ⟨w, hw, dw⟩ := dget_ok hkk kq e
          exact ix_dict hu value slice pins s σ H _ _ uu vv Q I ru rv ⟨a, w, rfl, by rw [← hw]; exact .k t, p.ok S dw⟩ hs
        · cases e
      · cases e
    · split at e
      · rename_i ds i
        obtain ⟨a, vs, rfl, t, _, q⟩ := dx.lst_inv
        obtain ⟨w, hw, dw⟩ := atI_item q e
        rw [dy.int_inv] at rv
        exact ix_list value slice pins s σ H _ _ uu vv Q I ru rv ⟨a, vs, i, w, rfl, rfl, by rw [hK]; exact t, hw, p.ok S dw⟩ hs
      · cases e
    · cases e
end
end MI
end

section
set_option Elab.async false
set_option linter.all false
set_option maxRecDepth 100000
set_option maxHeartbeats 1000000
/-! MI6: slices, stores, built-ins, methods. -/
namespace MI
open PySem PySem.Spec PyProof.Rows L2
section
variable {G : Gm} {E : XW} {X : Cx} {ι : List Addr} {H : Hp} {h : Hs}
theorem cl_sIx (n : Nat) (d : Nat) (i : Int) : MI.cl n i = HT.sIx n d (some i) := by
  show (if 0 ≤ i then min i.toNat n else n - (-i).toNat) = (if i < 0 then (i + (n : Int)).toNat else min i.toNat n)
  by_cases h : 0 ≤ i
  · rw [if_pos h, if_neg (by omega)]
  · rw [if_neg h, if_pos (by omega)]; omega
theorem cut_eq {α : Type} (xs : List α) (lo hi : Option Int) : MI.cut xs lo hi = (xs.drop (HT.sIx xs.length 0 lo)).take (HT.sIx xs.length xs.length hi - HT.sIx xs.length 0 lo) := by
  cases lo with
  | none =>
    cases hi with
    | none => exact List.drop_take
    | some j =>
      show List.drop _ (List.take (MI.cl xs.length j) xs) = _
      rw [cl_sIx _ xs.length, List.drop_take]
      rfl
  | some i =>
    cases hi with
    | none =>
      show List.drop (MI.cl xs.length i) (List.take _ xs) = _
      rw [cl_sIx _ 0, List.drop_take]
      rfl
    | some j =>
      show List.drop (MI.cl xs.length i) (List.take (MI.cl xs.length j) xs) = _
      rw [cl_sIx _ 0, cl_sIx _ xs.length, List.drop_take]
theorem cut_len {α : Type} (xs : List α) (lo hi : Option Int) : (MI.cut xs lo hi).length ≤ xs.length := by
  rw [cut_eq, List.length_take, List.length_drop]; omega
theorem cut_mem {α : Type} {xs : List α} {lo hi : Option Int} {c : α} (m : c ∈ MI.cut xs lo hi) : c ∈ xs := by
  rw [cut_eq] at m
  exact List.mem_of_mem_drop (List.mem_of_mem_take m)
theorem DVs.cut {ds : List D} {vs : List V} (q : DVs G H ι ds vs) (lo hi : Option Int) : DVs G H ι (MI.cut ds lo hi) (cutV vs lo hi) := by
  rw [cut_eq]
  unfold cutV
  rw [q.length]
  exact (q.drop _).take _
theorem sl_D (hK : X.K = G.K) : SlR X (fun u lo hi H Q => ∃ ι x h, SimH G ι h H ∧ DV G H ι x u ∧ PostD G ι H (slice x lo hi h) Q E) := by
  intro pins s σ H u uu vl vu lo hi sl Q I ru hs pl pu ⟨ι, x, h, S, dx, p⟩
  unfold slice at p
  split at p
  · rename_i x
    obtain ⟨e1, sx⟩ := dx.str_inv
    rw [e1] at ru
    refine sl_str pins s σ H _ uu vl vu lo hi sl Q I ru hs pl pu ⟨_, rfl, by rw [toStr_len, sizeLine_eq]; exact sx.1, ?_⟩
    have : cutS (toStr x) lo hi = toStr (MI.cut x lo hi) := by
      unfold cutS
      rw [cut_eq]
      show _ = (⟨_⟩ : Str)
      rw [toStr_len]
      rfl
    rw [this]
    exact p.ok S (.str (sx.sub (cut_len _ _ _) fun c => cut_mem))
  · obtain ⟨a, vs, rfl, t, l, q⟩ := dx.tup_inv
    refine sl_tupA pins s σ H _ uu vl vu lo hi sl Q I ru hs pl pu ⟨a, vs, rfl, by rw [hK]; exact t, fun e => ?_, fun _ b hb => ?_⟩
    · rename_i ds
      have : MI.cut ds lo hi = ds := by
        rw [cut_eq, q.length, e.1, e.2]
        rw [List.drop_zero, Nat.sub_zero, ← q.length, List.take_length]
      rw [this] at p
      exact p.ok S (.tup t l q)
    · exact p.newTup S (Nat.le_trans (cut_len _ _ _) l) (q.cut lo hi) hb
  · split at p
    · rename_i n ds hd
      obtain ⟨a, rfl, ia⟩ := dx.ref_inv
      obtain ⟨vs, t, l, q⟩ := S.seq hd ia
      exact sl_list pins s σ H _ uu vl vu lo hi sl Q I ru hs pl pu ⟨a, vs, rfl, by rw [hK]; exact t, fun b hb => p.newLst S (Nat.le_trans (cut_len _ _ _) l) (q.cut lo hi) hb⟩
    · exact p.elim
  · obtain ⟨a, vs, rfl, t, l, q⟩ := dx.lst_inv
    exact sl_list pins s σ H _ uu vl vu lo hi sl Q I ru hs pl pu ⟨a, vs, rfl, by rw [hK]; exact t, fun b hb => p.newLst S (Nat.le_trans (cut_len _ _ _) l) (q.cut lo hi) hb⟩
  · exact p.elim
/-- o[i] = v -/
theorem set_D (hu : X.A.units + 1 < cLine) : PSet X (fun u v w H Q => ∃ ι x y z h h', SimH G ι h H ∧ DV G H ι x u ∧ DV G H ι y v ∧ DV G H ι z w ∧ store x y z h = some h' ∧ ∀ H', Next ι H ι H' → SimH G ι h' H' → Q H') := by
  intro pins s σ H u v w uu vv ww Q I ru rv rw_ ⟨ι, x, y, z, h, h', S, dx, dy, dz, e, q⟩
  unfold store at e
  split at e
  · rename_i n
    obtain ⟨a, rfl, ia⟩ := dx.ref_inv
    split at e
    · rename_i ds hd
      split at e
      · split at e
        · rename_i i _ k hk
          cases e
          obtain ⟨vs, t, l, qs⟩ := S.lst hd ia
          rw [dy.int_inv] at rv
          refine set_list pins s σ H _ _ _ uu vv ww Q I ru rv rw_ ⟨a, vs, i, k, rfl, rfl, t, by rw [← qs.length, ← ixN_eq]; exact hk, ?_⟩
          have nx : Next ι H ι (upd H a (.lst (vs.set k w))) := .wr ia (.lst t)
          refine q _ nx (S.set hd ia (.lst t) ⟨_, upd_same, by rw [List.length_set]; exact l, ?_⟩)
          exact (qs.next nx).set k (dz.next nx)
        · cases e
      · cases e
    · rename_i kvs hd
      split at e
      · rename_i hk
        cases e
        obtain ⟨q0, t, l, kq⟩ := S.dct hd ia
        obtain ⟨kk, rfl, hkk⟩ := keyOf hk.1 dy
        cases (show uu = Value.ref a from ru)
        have hz : q0.length < sizeLine := by rw [← kq.length, sizeLine_eq]; exact hk.2
        refine d_setItem hu I (.k (k := kk) (v := w) t hz) rv rw_ fun s4 I4 => ⟨_, I4, ?_⟩
        have nx : Next ι H ι (upd H a (.dK (putK q0 kk w))) := .wr ia (.dct t)
        refine q _ nx (S.set hd ia (.dct t) ⟨_, upd_same, ?_, ?_⟩)
        · have := dput_len y z kvs
          have h2 := hk.2
          omega
        · exact dput_ok hkk (dz.next nx) (kq.next nx)
      · cases e
    · cases e
  · cases e
end
/-- a call's reading -/
def rND (G : Gm) (E : XW) (f : List D → Hs → Res D) : List V → Hp → VK → Prop := fun vs H Q => ∃ ι ds h, SimH G ι h H ∧ DVs G H ι ds vs ∧ PostD G ι H (f ds h) Q E
section
variable {G : Gm} {E : XW} {X : Cx}
theorem dv1 {ι : List Addr} {H : Hp} {d : D} {vs : List V} (q : DVs G H ι [d] vs) : ∃ v, vs = [v] ∧ DV G H ι d v := by
  obtain ⟨v, r, rfl, a, b⟩ := q.cons_inv
  rw [b.nil_inv]
  exact ⟨v, rfl, a⟩
theorem c_len (hK : X.K = G.K) : CallR X (.builtin "len") (rND G E biLen) := by
  intro pins s σ H vs us Q I r ⟨ι, ds, h, S, dv, p⟩
  unfold biLen at p
  have seqq : ∀ n x, seqOf h n = some x → ds = [.ref n] → PostD G ι H (.ok (.int x.length) h) Q E → wpAny (model X.prog X.w) X.A (call (.builtin "len") us) (EP X pins σ Q) X.xe s := fun n x hx ed p' => by
    clear p
    subst ed
    obtain ⟨v, rfl, d⟩ := dv1 dv
    obtain ⟨a, rfl, ia⟩ := d.ref_inv
    obtain ⟨ys, t, _, q⟩ := S.seq hx ia
    exact call_len_seq pins s σ H _ us Q I r ⟨a, ys, rfl, .inl (by rw [hK]; exact t), by rw [← q.length]; exact p'.ok S DV.int⟩
  split at p
  · obtain ⟨v, rfl, d⟩ := dv1 dv
    obtain ⟨e, sx⟩ := d.str_inv
    subst e
    exact call_len_str pins s σ H _ us Q I r ⟨_, rfl, by rw [toStr_len, sizeLine_eq]; exact sx.1, by rw [toStr_len]; exact p.ok S DV.int⟩
  · obtain ⟨v, rfl, d⟩ := dv1 dv
    obtain ⟨a, ys, rfl, t, _, q⟩ := d.tup_inv
    exact call_len_seq pins s σ H _ us Q I r ⟨a, ys, rfl, .inr (by rw [hK]; exact t), by rw [← q.length]; exact p.ok S DV.int⟩
  · split at p
    · rename_i n _ x hx
      exact seqq n x (by simp [seqOf, hx]) rfl p
    · rename_i n _ x hx
      obtain ⟨v, rfl, d⟩ := dv1 dv
      obtain ⟨a, rfl, ia⟩ := d.ref_inv
      obtain ⟨q, t, l, kq⟩ := S.dct hx ia
      exact call_lenD pins s σ H _ us Q I r ⟨a, q, rfl, t, by rw [← kq.length]; exact p.ok S DV.int⟩
    · exact p.elim
  · obtain ⟨v, rfl, d⟩ := dv1 dv
    obtain ⟨a, ys, rfl, t, _, q⟩ := d.lst_inv
    exact call_len_seq pins s σ H _ us Q I r ⟨a, ys, rfl, .inl (by rw [hK]; exact t), by rw [← q.length]; exact p.ok S DV.int⟩
  · exact p.elim
theorem chars_dvs {ι : List Addr} {H : Hp} : ∀ {x : S}, (∀ c ∈ x, c < 1114112) → DVs G H ι (chars x) (x.map fun c => V.str (toStr [c]))
  | [], _ => .nil
  | c :: x, h => .cons (.str (SOk.one (h c List.mem_cons_self))) (chars_dvs fun d hd => h d (List.mem_cons_of_mem _ hd))
theorem call_listS (hc : X.calm = true) : CallR X (.type "list") (fun xs H Q => ∃ x : S, xs = [.str (toStr x)] ∧ x.length ≤ L ∧ ∀ l, H l = none → Q (.ref l) (upd H l (.lst (x.map fun c => V.str (toStr [c]))))) := by
  intro pins s σ H xs us Q I r ⟨x, e, hl, q⟩
  subst e
  obtain ⟨u, rfl, ru⟩ := vals1 r
  obtain ⟨t, rfl⟩ := ru
  refine call_list_str (I.ok.hd hc) _ _ (fun h' tk acc' c' hk hS hacc => ?_) (by show x.toArray.size ≤ sizeLine; rw [sizeLine_eq]; simpa using hl)
  refine ⟨.ref s.heap.objs.size, _, I.laid (t' := tk) (o := .lst (x.map fun c => V.str (toStr [c]))) hk (Nat.le_refl _) ?_, rfl, q _ (I.hok.fresh (Nat.le_refl _))⟩
  refine ⟨by rw [List.length_map, sizeLine_eq]; exact hl, acc'.toList, c', ?_, by simpa using hS⟩
  have hsz : acc'.size = x.length := by
    have := hacc.1
    simpa [toStr] using this
  have main : ∀ (y : S) (k : Nat), k + y.length = x.length → y = x.drop k → Vals (y.map fun c => V.str (toStr [c])) (acc'.toList.drop k) := by
    intro y
    induction y with
    | nil =>
      intro k hk _
      have e : acc'.toList.length = x.length := by simpa using hsz
      have e2 : k + 0 = x.length := hk
      have : acc'.toList.drop k = [] := List.drop_eq_nil_of_le (by omega)
      rw [this]
      exact .nil
    | cons c y ih =>
      intro k hk hy
      have hkl : k < acc'.toList.length := by
        have : y.length + 1 + k = x.length := by simp at hk; omega
        simp [hsz]; omega
      rw [List.drop_eq_getElem_cons hkl]
      refine .cons ?_ (ih (k + 1) (by simp at hk; omega) ?_)
      · obtain ⟨c', u, hc', e⟩ := hacc.2 k acc'.toList[k] (by simp [List.getElem?_eq_getElem hkl] at *)
        have h1 : x[k]? = some c := by
          have : (x.drop k)[0]? = some c := by rw [← hy]; rfl
          simpa using this
        have h2 : (toStr x).cps[k]? = some c' := hc'
        have h3 : c = c' := by
          have : x[k]? = some c' := by simpa [toStr] using h2
          rw [h1] at this
          exact Option.some.inj this
        subst h3
        exact ⟨u, e⟩
      · have : x.drop (k + 1) = (x.drop k).drop 1 := by rw [List.drop_drop, Nat.add_comm]
        rw [this, ← hy]
        rfl
  have := main x 0 (by simp) (by simp)
  simpa using this
theorem c_list (hK : X.K = G.K) (hc : X.calm = true) : CallR X (.type "list") (rND G E biList) := by
  intro pins s σ H vs us Q I r ⟨ι, ds, h, S, dv, p⟩
  unfold biList at p
  split at p
  · obtain ⟨v, rfl, d⟩ := dv1 dv
    obtain ⟨e, sx⟩ := d.str_inv
    subst e
    exact call_listS hc pins s σ H _ us Q I r ⟨_, rfl, sx.1, fun a ha => p.newLst S (by simpa [chars] using sx.1) (chars_dvs sx.2) ha⟩
  · obtain ⟨v, rfl, d⟩ := dv1 dv
    obtain ⟨a, ys, rfl, t, l, q⟩ := d.tup_inv
    exact call_list_of pins s σ H _ us Q I r ⟨a, ys, rfl, .inr (by rw [hK]; exact t), fun b hb => p.newLst S l q hb⟩
  · split at p
    · rename_i n x hx
      obtain ⟨v, rfl, d⟩ := dv1 dv
      obtain ⟨a, rfl, ia⟩ := d.ref_inv
      obtain ⟨ys, t, l, q⟩ := S.seq hx ia
      exact call_list_of pins s σ H _ us Q I r ⟨a, ys, rfl, .inl (by rw [hK]; exact t), fun b hb => p.newLst S l q hb⟩
    · exact p.elim
  · obtain ⟨v, rfl, d⟩ := dv1 dv
    obtain ⟨a, ys, rfl, t, l, q⟩ := d.lst_inv
    exact call_list_of pins s σ H _ us Q I r ⟨a, ys, rfl, .inl (by rw [hK]; exact t), fun b hb => p.newLst S l q hb⟩
  · exact p.elim
theorem c_tuple (hK : X.K = G.K) : CallR X (.type "tuple") (rND G E biTuple) := by
  intro pins s σ H vs us Q I r ⟨ι, ds, h, S, dv, p⟩
  unfold biTuple at p
  split at p
  · obtain ⟨v, rfl, d⟩ := dv1 dv
    obtain ⟨a, ys, rfl, t, l, q⟩ := d.tup_inv
    exact call_tuple_of pins s σ H _ us Q I r ⟨a, ys, rfl, .inr ⟨by rw [hK]; exact t, p.ok S (.tup t l q)⟩⟩
  · split at p
    · rename_i n x hx
      obtain ⟨v, rfl, d⟩ := dv1 dv
      obtain ⟨a, rfl, ia⟩ := d.ref_inv
      obtain ⟨ys, t, l, q⟩ := S.seq hx ia
      exact call_tuple_of pins s σ H _ us Q I r ⟨a, ys, rfl, .inl ⟨by rw [hK]; exact t, fun b hb => p.newTup S l q hb⟩⟩
    · exact p.elim
  · obtain ⟨v, rfl, d⟩ := dv1 dv
    obtain ⟨a, ys, rfl, t, l, q⟩ := d.lst_inv
    exact call_tuple_of pins s σ H _ us Q I r ⟨a, ys, rfl, .inl ⟨by rw [hK]; exact t, fun b hb => p.newTup S l q hb⟩⟩
  · exact p.elim
theorem c_int : CallR X (.type "int") (rND G E biInt) := by
  intro pins s σ H vs us Q I r ⟨ι, ds, h, S, dv, p⟩
  unfold biInt at p
  split at p
  · obtain ⟨v, rfl, d⟩ := dv1 dv
    rw [d.int_inv] at r
    exact call_int1 pins s σ H _ us Q I r (.inl ⟨_, rfl, p.ok S DV.int⟩)
  · obtain ⟨v, rfl, d⟩ := dv1 dv
    rw [d.bl_inv] at r
    exact call_int1 pins s σ H _ us Q I r (.inr ⟨_, rfl, p.ok S DV.int⟩)
  · exact p.elim
theorem truths_ok {ι : List Addr} {H : Hp} : ∀ {ds : List D} {vs : List V} {bs : List Bool}, DVs G H ι ds vs → truths ds = some bs → vs = bs.map V.bl
  | [], _, bs, q, e => by
    simp only [truths, Option.some.injEq] at e
    subst e
    rw [q.nil_inv]
    rfl
  | .bl b :: ds, _, bs, q, e => by
    simp only [truths] at e
    obtain ⟨cs, e1, rfl⟩ := Option.map_eq_some_iff.mp e
    obtain ⟨v, r, rfl, a, c⟩ := q.cons_inv
    rw [a.bl_inv, truths_ok c e1]
    rfl
  | .non :: _, _, _, _, e => by simp [truths] at e
  | .int _ :: _, _, _, _, e => by simp [truths] at e
  | .str _ :: _, _, _, _, e => by simp [truths] at e
  | .tup _ :: _, _, _, _, e => by simp [truths] at e
  | .lst _ :: _, _, _, _, e => by simp [truths] at e
  | .ref _ :: _, _, _, _, e => by simp [truths] at e
  | .fn _ :: _, _, _, _, e => by simp [truths] at e
  | .cls _ :: _, _, _, _, e => by simp [truths] at e
  | .ty _ :: _, _, _, _, e => by simp [truths] at e
theorem c_all (hK : X.K = G.K) (hc : X.calm = true) : CallR X (.builtin "all") (rND G E biAll) := by
  intro pins s σ H vs us Q I r ⟨ι, ds, h, S, dv, p⟩
  unfold biAll at p
  split at p
  · split at p
    · rename_i n x hx
      split at p
      · rename_i bs hb
        obtain ⟨v, rfl, d⟩ := dv1 dv
        obtain ⟨a, rfl, ia⟩ := d.ref_inv
        obtain ⟨ys, t, l, q⟩ := S.seq hx ia
        have := truths_ok q hb
        subst this
        exact cr_all hc pins s σ H _ us Q I r ⟨a, bs, rfl, by rw [hK]; exact t, p.ok S DV.bl⟩
      · exact p.elim
    · exact p.elim
  · exact p.elim
theorem c_any (hK : X.K = G.K) (hc : X.calm = true) : CallR X (.builtin "any") (rND G E biAny) := by
  intro pins s σ H vs us Q I r ⟨ι, ds, h, S, dv, p⟩
  unfold biAny at p
  split at p
  · split at p
    · rename_i n x hx
      split at p
      · rename_i bs hb
        obtain ⟨v, rfl, d⟩ := dv1 dv
        obtain ⟨a, rfl, ia⟩ := d.ref_inv
        obtain ⟨ys, t, l, q⟩ := S.seq hx ia
        have := truths_ok q hb
        subst this
        exact cr_any hc pins s σ H _ us Q I r ⟨a, bs, rfl, by rw [hK]; exact t, p.ok S DV.bl⟩
      · exact p.elim
    · exact p.elim
  · exact p.elim
end
end MI
end

section
set_option Elab.async false
set_option linter.all false
set_option maxRecDepth 100000
set_option maxHeartbeats 1000000
/-! MI7: str(x), isinstance, methods. -/
namespace MI
open PySem PySem.Spec PyProof.Rows L2
section
variable {G : Gm} {E : XW} {X : Cx} {ι : List Addr} {H : Hp} {h : Hs}
theorem toDigits_ok (n : Nat) : ∀ c ∈ digs n, c < 1114112 := fun c hc => by
  unfold digs at hc
  obtain ⟨d, _, rfl⟩ := List.mem_map.mp hc
  have := d.valid
  rcases this with h | ⟨_, h⟩
  · show d.val.toNat < _
    have : d.val.toNat < 0xd800 := h
    omega
  · show d.val.toNat < _
    exact h
theorem strI_eq (i : Int) : (Str.ofString (toString i)).cps.toList = strI i := by
  unfold strI
  by_cases hi : i < 0
  · rw [if_pos hi]
    obtain ⟨n, rfl⟩ : ∃ n : Nat, i = Int.negSucc n := ⟨(-i - 1).toNat, by omega⟩
    have e : toString (Int.negSucc n) = "-" ++ toString (((n + 1 : Nat) : Int)) := rfl
    rw [e]
    have h1 := TL.tl_ofString ("-" ++ toString (((n + 1 : Nat) : Int)))
    have h2 := TL.tl_ofString (toString (((n + 1 : Nat) : Int)))
    have h3 := TL.tl_num (n + 1)
    rw [h2] at h3
    have h1' : (Str.ofString ("-" ++ toString (((n + 1 : Nat) : Int)))).cps.toList = ("-" ++ toString (((n + 1 : Nat) : Int))).toList.map Char.toNat := h1
    rw [h1', String.toList_append, List.map_append, h3]
    rfl
  · rw [if_neg hi]
    obtain ⟨n, rfl⟩ : ∃ n : Nat, i = (n : Int) := ⟨i.toNat, by omega⟩
    exact TL.tl_num n
theorem strI_str (i : Int) : Str.ofString (toString i) = toStr (strI i) := by
  have : ∀ a b : Str, a.cps.toList = b.cps.toList → a = b := fun a b e => TL.ext_tl e
  exact this _ _ (strI_eq i)
theorem digs_len {n k : Nat} (hk : 0 < k) (h : n < 10 ^ k) : (digs n).length ≤ k := by
  unfold digs
  rw [List.length_map]
  exact Nat.length_toDigits_le_iff (by decide) hk |>.mpr h
theorem log_lt {n : Nat} (h : n < 10 ^ 100) : n.log2 < 1920 := by
  by_cases h0 : n = 0
  · subst h0; decide
  · exact (Nat.log2_lt h0).mpr (Nat.lt_of_lt_of_le h (by decide +kernel))
theorem strI_ok {i : Int} (h : i.natAbs < 10 ^ 100) : SOk (strI i) := by
  have l : (digs i.natAbs).length ≤ 100 := digs_len (by decide) h
  unfold strI
  split
  · exact ⟨by rw [List.length_cons]; show _ ≤ 16777216; omega, fun c hc => by
      rcases List.mem_cons.mp hc with rfl | hc
      · decide
      · exact toDigits_ok _ c hc⟩
  · exact ⟨by show _ ≤ 16777216; omega, toDigits_ok _⟩
theorem c_str : CallR X (.type "str") (rND G E biStr) := by
  intro pins s σ H vs us Q I r ⟨ι, ds, h, S, dv, p⟩
  unfold biStr at p
  split at p
  · split at p
    · rename_i i hl
      obtain ⟨v, rfl, d⟩ := dv1 dv
      rw [d.int_inv] at r
      refine call_str_int pins s σ H _ us Q I r ⟨i, rfl, ?_, ?_⟩
      · exact log_lt hl
      · rw [strI_str]
        exact p.ok S (.str (strI_ok hl))
    · exact p.elim
  · obtain ⟨v, rfl, d⟩ := dv1 dv
    obtain ⟨e, sx⟩ := d.str_inv
    subst e
    exact SkE.call_str_str pins s σ H _ us Q I r ⟨_, rfl, p.ok S (.str sx)⟩
  · exact p.elim
/-! ### isinstance -/
theorem kit_all : ∀ a b : MI.Ty, kitB (tyName a) (tyName b) = some (subTy a b) := by
  intro a b
  cases a <;> cases b <;> decide +kernel
theorem tyOf_ok (hK : X.K = G.K) {d : D} {v : V} {t : MI.Ty} (S : SimH G ι h H) (q : DV G H ι d v) (e : tyOf h d = some t) : TyX X.K H v (.type (tyName t)) := by
  cases d with
  | non => cases e; rw [q.non_inv]; exact .base .non
  | bl b => cases e; rw [q.bl_inv]; exact .base (.bl b)
  | int b => cases e; rw [q.int_inv]; exact .base (.int b)
  | str b => cases e; rw [q.str_inv.1]; exact .base (.str _)
  | tup ds =>
    cases e
    obtain ⟨a, vs, rfl, t, _⟩ := q.tup_inv
    rw [hK]
    rcases t with (t | ⟨o, t⟩) | ⟨o, its, n, t1, t2, _⟩
    · exact .base (.tup t)
    · exact .fTuple t
    · exact .kTuple t1 t2
  | ref n =>
    obtain ⟨a, rfl, ia⟩ := q.ref_inv
    simp only [tyOf] at e
    split at e
    · rename_i ds hd
      cases e
      obtain ⟨vs, t, _⟩ := S.lst hd ia
      exact .base (.lst t)
    · rename_i ds hd
      cases e
      obtain ⟨vs, t, _⟩ := S.dct hd ia
      exact .base (.dK t)
    · cases e
  | lst ds =>
    cases e
    obtain ⟨a, vs, rfl, t, _⟩ := q.lst_inv
    rw [hK]
    rcases t with (t | ⟨o, t⟩) | ⟨o, its, n, t1, t2, _⟩
    · exact .base (.lst t)
    · exact .base (.frz t)
    · exact .kList t1 t2
  | fn b => simp [tyOf] at e
  | cls b => simp [tyOf] at e
  | ty b => simp [tyOf] at e
theorem kitAny_tys {K : PySem.W.Frag} (t : MI.Ty) : ∀ ts : List MI.Ty, PySem.W.kitAny K (.type (tyName t)) (ts.map fun b => Value.type (tyName b)) = some (ts.any (subTy t))
  | [] => rfl
  | b :: ts => by
    simp only [List.map_cons, List.any_cons]
    refine kitAny_cons (kit_ty (kit_all t b)) (fun e => ?_) (fun e => ?_)
    · rw [e, Bool.false_or]; exact kitAny_tys t ts
    · rw [e, Bool.true_or]
/-! ### methods -/
/-- a method's reading -/
def rMD (G : Gm) (E : XW) (f : D → List D → Hs → Res D) : V → List V → Hp → VK → Prop := fun u vs H Q => ∃ ι x ds h, SimH G ι h H ∧ DV G H ι x u ∧ DVs G H ι ds vs ∧ PostD G ι H (f x ds h) Q E
theorem Post.wrote {E : XW} {d : D} {n : Nat} {a : Addr} {w u : MO} {o : HO} {v : V} {Q : VK} (p : PostD G ι H (.ok d (h.set n u)) Q E) (s : SimH G ι h H) (hw : h[n]? = some w) (ha : ι[n]? = some a) (g : Grow H (upd H a o))
    (m : Next ι H ι (upd H a o) → MOR G (upd H a o) ι a u) (q : Next ι H ι (upd H a o) → DV G (upd H a o) ι d v) : Q v (upd H a o) := by
  have nx : Next ι H ι (upd H a o) := .wr ha g
  exact p.at_ nx (s.set hw ha g (m nx)) (q nx)
theorem m_append : MtR X "list.append" (rMD G E mtAppend) := by
  intro pins s σ H u vs uu us Q I ru rs ⟨ι, x, ds, h, S, dx, dv, p⟩
  unfold mtAppend at p
  split at p
  · split at p
    · rename_i n d _ xs hd
      split at p
      · rename_i hl
        obtain ⟨a, rfl, ia⟩ := dx.ref_inv
        obtain ⟨v, rfl, q⟩ := dv1 dv
        obtain ⟨ws, t, _, qs⟩ := S.lst hd ia
        refine mt_append pins s σ H _ _ uu us Q I ru rs ⟨a, ws, v, rfl, rfl, t, by rw [← qs.length, sizeLine_eq]; exact hl, ?_⟩
        refine p.wrote S hd ia (.lst t) (fun nx => ⟨_, upd_same, by simp; omega, (qs.next nx).append (.cons (q.next nx) .nil)⟩) fun _ => .non
      · exact p.elim
    · exact p.elim
  · exact p.elim
theorem m_extend : MtR X "list.extend" (rMD G E mtExtend) := by
  intro pins s σ H u vs uu us Q I ru rs ⟨ι, x, ds, h, S, dx, dv, p⟩
  unfold mtExtend at p
  split at p
  · split at p
    · rename_i n m _ _ xs ys hd hm
      split at p
      · rename_i hl
        obtain ⟨a, rfl, ia⟩ := dx.ref_inv
        obtain ⟨v, rfl, q⟩ := dv1 dv
        obtain ⟨b, rfl, ib⟩ := q.ref_inv
        obtain ⟨ws, t, _, qs⟩ := S.lst hd ia
        obtain ⟨zs, t2, _, qz⟩ := S.lst hm ib
        refine mt_extend pins s σ H _ _ uu us Q I ru rs ⟨a, b, ws, zs, rfl, rfl, t, t2, by rw [← qs.length, ← qz.length, sizeLine_eq]; exact hl, ?_⟩
        refine p.wrote S hd ia (.lst t) (fun nx => ⟨_, upd_same, by simpa using hl, (qs.next nx).append (qz.next nx)⟩) fun _ => .non
      · exact p.elim
    · exact p.elim
  · exact p.elim
theorem DVs.dropLast {ds : List D} {vs : List V} (q : DVs G H ι ds vs) : DVs G H ι ds.dropLast vs.dropLast := by
  rw [List.dropLast_eq_take, List.dropLast_eq_take, ← q.length]
  exact q.take _
theorem m_pop : MtR X "list.pop" (rMD G E mtPop) := by
  intro pins s σ H u vs uu us Q I ru rs ⟨ι, x, ds, h, S, dx, dv, p⟩
  unfold mtPop at p
  split at p
  · split at p
    · rename_i n _ xs hd
      split at p
      · rename_i d hl
        obtain ⟨a, rfl, ia⟩ := dx.ref_inv
        have := dv.nil_inv
        subst this
        obtain ⟨ws, t, l, qs⟩ := S.lst hd ia
        obtain ⟨v, hv, qv⟩ := qs.get hl
        refine mt_pop pins s σ H _ _ uu us Q I ru rs ⟨a, ws, v, rfl, rfl, t, by rw [← qs.length]; exact hv, ?_⟩
        refine p.wrote S hd ia (.lst t) (fun nx => ⟨_, upd_same, ?_, (qs.next nx).dropLast⟩) fun nx => qv.next nx
        rw [List.length_dropLast]; omega
      · exact p.elim
    · exact p.elim
  · split at p
    · rename_i n i _ xs hd
      split at p
      · rename_i k hk
        split at p
        · rename_i d hl
          obtain ⟨a, rfl, ia⟩ := dx.ref_inv
          obtain ⟨v0, rfl, qi⟩ := dv1 dv
          have := qi.int_inv
          subst this
          obtain ⟨ws, t, l, qs⟩ := S.lst hd ia
          obtain ⟨v, hv, qv⟩ := qs.get hl
          have hk2 : L2.ixN ws.length i = some k := by rw [← qs.length, ← ixN_eq]; exact hk
          obtain ⟨g1, g2, g3, g4⟩ := ixN_seq hk2
          have hw : ws.length ≤ 16777216 := by rw [← qs.length]; exact l
          refine mt_popAt pins s σ H _ _ uu us Q I ru rs ⟨a, ws, i, k, v, rfl, rfl, t, by omega, by omega, g1, hv, ?_⟩
          refine p.wrote S hd ia (.lst t) (fun nx => ⟨_, upd_same, ?_, (qs.next nx).eraseIdx k⟩) fun nx => qv.next nx
          have := List.length_eraseIdx_le xs k
          omega
        · exact p.elim
      · exact p.elim
    · exact p.elim
  · exact p.elim
theorem spl_splitOn (c : Nat) : ∀ (x acc : S), TL.spl [c] 0 acc x = match splitOn c x with
    | w :: ws => (acc ++ w) :: ws
    | [] => []
  | [], acc => by simp [splitOn, TL.spl_nil]
  | d :: x, acc => by
    by_cases e : d = c
    · rw [TL.spl_hit (by simp [TL.pre, e])]
      show acc :: TL.spl [c] 0 [] x = _
      rw [spl_splitOn c x]
      simp only [splitOn, if_pos e]
      cases hs : splitOn c x with
      | nil =>
        exfalso
        have : ∀ y : S, splitOn c y ≠ [] := by
          intro y
          cases y with
          | nil => simp [splitOn]
          | cons a y => simp only [splitOn]; split <;> (try split) <;> simp
        exact this x hs
      | cons w ws => simp
    · rw [TL.spl_miss (by simp [TL.pre, e])]
      rw [spl_splitOn c x]
      simp only [splitOn, if_neg e]
      cases hs : splitOn c x with
      | nil => 
        exfalso
        have : ∀ y : S, splitOn c y ≠ [] := by
          intro y
          cases y with
          | nil => simp [splitOn]
          | cons a y => simp only [splitOn]; split <;> (try split) <;> simp
        exact this x hs
      | cons w ws => simp
theorem splitOn_ne (c : Nat) (y : S) : splitOn c y ≠ [] := by
  cases y with
  | nil => simp [splitOn]
  | cons a y => simp only [splitOn]; split <;> (try split) <;> simp
theorem spl_eq (c : Nat) (x : S) : TL.spl [c] 0 [] x = splitOn c x := by
  rw [spl_splitOn]
  cases hs : splitOn c x with
  | nil => rfl
  | cons w ws => simp
theorem splitOn_len (c : Nat) : ∀ x : S, (splitOn c x).length ≤ x.length + 1
  | [] => by simp [splitOn]
  | d :: x => by
    have ih := splitOn_len c x
    simp only [splitOn]
    split
    · simp; omega
    · split
      · rename_i w ws e
        rw [e] at ih
        simp at ih ⊢; omega
      · simp
theorem splitOn_mem (c : Nat) : ∀ {x w : S}, w ∈ splitOn c x → w.length ≤ x.length ∧ ∀ d ∈ w, d ∈ x
  | [], w, h => by simp [splitOn] at h; subst h; simp
  | d :: x, w, h => by
    simp only [splitOn] at h
    split at h
    · rcases List.mem_cons.mp h with rfl | h
      · simp
      · have := splitOn_mem c h
        exact ⟨by simp; omega, fun e he => List.mem_cons_of_mem _ (this.2 e he)⟩
    · split at h
      · rename_i v vs e
        rcases List.mem_cons.mp h with rfl | h
        · have := splitOn_mem c (x := x) (w := v) (by rw [e]; simp)
          refine ⟨by simp; exact this.1, fun z hz => ?_⟩
          rcases List.mem_cons.mp hz with rfl | hz
          · simp
          · exact List.mem_cons_of_mem _ (this.2 z hz)
        · have := splitOn_mem c (x := x) (w := w) (by rw [e]; exact List.mem_cons_of_mem _ h)
          exact ⟨by simp; omega, fun e he => List.mem_cons_of_mem _ (this.2 e he)⟩
      · rcases List.mem_cons.mp h with rfl | h
        · simp
        · cases h
theorem strs_dvs : ∀ {ws : List S}, (∀ w ∈ ws, SOk w) → DVs G H ι (ws.map D.str) (ws.map fun w => V.str (toStr w))
  | [], _ => .nil
  | w :: ws, h => .cons (.str (h w List.mem_cons_self)) (strs_dvs fun v hv => h v (List.mem_cons_of_mem _ hv))
theorem m_split : MtR X "str.split" (rMD G E mtSplit) := by
  intro pins s σ H u vs uu us Q I ru rs ⟨ι, x, ds, h, S, dx, dv, p⟩
  unfold mtSplit at p
  split at p
  · split at p
    · rename_i x c hl
      obtain ⟨e1, sx⟩ := dx.str_inv
      obtain ⟨v, rfl, q⟩ := dv1 dv
      obtain ⟨e2, _⟩ := q.str_inv
      subst e1 e2
      refine mt_split pins s σ H _ _ uu us Q I ru rs ⟨_, _, rfl, rfl, rfl, by rw [toStr_len, sizeLine_eq]; exact hl.1, ?_⟩
      have e : Txt.split (toStr x) (toStr [c]) = (splitOn c x).map toStr := by
        have := SX.split_S (a := x) (b := [c]) (by simp) (by simp [hl.2])
        rw [spl_eq] at this
        exact this
      intro a ha
      rw [e, List.map_map]
      refine p.newLst S ?_ (strs_dvs fun w hw => sx.sub (splitOn_mem c hw).1 (splitOn_mem c hw).2) ha
      have := splitOn_len c x
      have h1 : x.length + 2 ≤ 16777216 := hl.1
      rw [List.length_map]
      show _ ≤ 16777216
      omega
    · exact p.elim
  · exact p.elim
theorem joinL_eq (sep : S) : ∀ ys : List S, TL.joinL sep ys = joinS sep ys
  | [] => rfl
  | [x] => rfl
  | x :: y :: r => by
    simp only [TL.joinL, joinS]
    rw [joinL_eq sep (y :: r), List.append_assoc]
theorem joinS_mem {sep : S} : ∀ {ys : List S} {c : Nat}, c ∈ joinS sep ys → c ∈ sep ∨ ∃ y ∈ ys, c ∈ y
  | [], _, h => by simp [joinS] at h
  | [x], _, h => .inr ⟨x, by simp, h⟩
  | x :: y :: r, c, h => by
    simp only [joinS, List.mem_append] at h
    rcases h with (h | h) | h
    · exact .inr ⟨x, by simp, h⟩
    · exact .inl h
    · rcases joinS_mem h with h | ⟨z, hz, h⟩
      · exact .inl h
      · exact .inr ⟨z, List.mem_cons_of_mem _ hz, h⟩
theorem joinS_len (sep : S) : ∀ ys : List S, (joinS sep ys).length ≤ (ys.map (·.length)).sum + ys.length * sep.length
  | [] => by simp [joinS]
  | [x] => by simp [joinS]
  | x :: y :: r => by
    have ih := joinS_len sep (y :: r)
    simp only [joinS, List.length_append, List.map_cons, List.sum_cons, List.length_cons] at *
    have : (r.length + 1 + 1) * sep.length = sep.length + (r.length + 1) * sep.length := by rw [Nat.succ_mul (r.length + 1)]; omega
    omega
theorem strsOf_ok : ∀ {ds : List D} {vs : List V} {ys : List S}, DVs G H ι ds vs → strsOf ds = some ys → vs = (ys.map toStr).map V.str ∧ ∀ y ∈ ys, SOk y
  | [], _, ys, q, e => by
    simp only [strsOf, Option.some.injEq] at e
    subst e
    rw [q.nil_inv]
    exact ⟨rfl, by simp⟩
  | .str x :: ds, _, ys, q, e => by
    simp only [strsOf] at e
    obtain ⟨cs, e1, rfl⟩ := Option.map_eq_some_iff.mp e
    obtain ⟨v, r, rfl, a, c⟩ := q.cons_inv
    obtain ⟨h1, h2⟩ := strsOf_ok c e1
    rw [a.str_inv.1, h1]
    exact ⟨rfl, fun y hy => by
      rcases List.mem_cons.mp hy with rfl | hy
      · exact a.str_inv.2
      · exact h2 y hy⟩
  | .non :: _, _, _, _, e => by simp [strsOf] at e
  | .int _ :: _, _, _, _, e => by simp [strsOf] at e
  | .bl _ :: _, _, _, _, e => by simp [strsOf] at e
  | .tup _ :: _, _, _, _, e => by simp [strsOf] at e
  | .lst _ :: _, _, _, _, e => by simp [strsOf] at e
  | .ref _ :: _, _, _, _, e => by simp [strsOf] at e
  | .fn _ :: _, _, _, _, e => by simp [strsOf] at e
  | .cls _ :: _, _, _, _, e => by simp [strsOf] at e
  | .ty _ :: _, _, _, _, e => by simp [strsOf] at e
theorem m_join (hK : X.K = G.K) : MtR X "str.join" (rMD G E mtJoin) := by
  intro pins s σ H u vs uu us Q I ru rs ⟨ι, x, ds, h, S, dx, dv, p⟩
  have core : ∀ (x : MI.S) (ds : List D) (a : Addr) (ws : List V), DV G H ι (.str x) u → vs = [.ref a] → DVs G H ι ds ws → (SqL X.K H a ws ∨ SqT X.K H a ws) → PostD G ι H (joinIf x ds h) Q E → wpAny (model X.prog X.w) X.A (call (.builtin "str.join") (uu :: us)) (EP X pins σ Q) X.xe s := fun x ds a ws dx ev q t p => by
    unfold joinIf at p
    split at p
    · rename_i ys hy
      split at p
      · rename_i hl
        obtain ⟨e1, sx⟩ := dx.str_inv
        subst e1 ev
        obtain ⟨ew, so⟩ := strsOf_ok q hy
        subst ew
        refine mt_join pins s σ H _ _ uu us Q I ru rs ⟨_, a, ys.map toStr, rfl, rfl, t, ?_, ?_⟩
        · rw [List.map_map, List.length_map, toStr_len]
          have : (ys.map ((fun z : Str => z.length) ∘ toStr)) = ys.map (·.length) := List.map_congr_left fun y _ => toStr_len y
          rw [this]
          exact hl
        · have e : Txt.join (toStr x) (ys.map toStr) = toStr (joinS x ys) := by
            have := SX.join_S x ys
            rw [joinL_eq] at this
            exact this
          rw [e]
          refine p.ok S (.str ⟨Nat.le_trans (joinS_len x ys) hl, fun c hc => ?_⟩)
          rcases joinS_mem hc with hc | ⟨y, hy, hc⟩
          · exact sx.2 c hc
          · exact (so y hy).2 c hc
      · exact p.elim
    · exact p.elim
  unfold mtJoin at p
  split at p
  · split at p
    · rename_i n ds hd
      obtain ⟨v, rfl, q⟩ := dv1 dv
      obtain ⟨a, rfl, ia⟩ := q.ref_inv
      obtain ⟨ws, t, _, qs⟩ := S.seq hd ia
      exact core _ ds a ws dx rfl qs (.inl (by rw [hK]; exact t)) p
    · exact p.elim
  · obtain ⟨v, rfl, q⟩ := dv1 dv
    obtain ⟨a, ws, rfl, t, _, qs⟩ := q.tup_inv
    exact core _ _ a ws dx rfl qs (.inr (by rw [hK]; exact t)) p
  · exact p.elim
theorem alnum_ok {c : Nat} (h : c < 128) : Unicode.isAlnum c = alnum c := by
  have : ∀ c, c < 128 → Unicode.isAlnum c = alnum c := by decide +kernel
  exact this c h
theorem m_isalnum : MtR X "str.isalnum" (rMD G E mtIsalnum) := by
  intro pins s σ H u vs uu us Q I ru rs ⟨ι, x, ds, h, S, dx, dv, p⟩
  unfold mtIsalnum at p
  split at p
  · split at p
    · rename_i x hl
      obtain ⟨e1, sx⟩ := dx.str_inv
      have := dv.nil_inv
      subst e1 this
      refine mt_isalnum pins s σ H _ _ uu us Q I ru rs ⟨_, rfl, rfl, trivial, ?_⟩
      have e : Txt.isalnum (toStr x) = (!x.isEmpty && x.all alnum) := by
        unfold Txt.isalnum
        rw [toStr_len]
        have h1 : (toStr x).cps.all Unicode.isAlnum = x.all alnum := by
          show x.toArray.all Unicode.isAlnum = _
          rw [List.all_toArray]
          rw [List.all_eq_true] at hl
          rw [Bool.eq_iff_iff, List.all_eq_true, List.all_eq_true]
          exact ⟨fun q c hc => by rw [← alnum_ok (of_decide_eq_true (hl c hc))]; exact q c hc, fun q c hc => by rw [alnum_ok (of_decide_eq_true (hl c hc))]; exact q c hc⟩
        rw [h1]
        cases x <;> rfl
      rw [e]
      exact p.ok S DV.bl
    · exact p.elim
  · exact p.elim
end
end MI
end

section
set_option Elab.async false
set_option linter.all false
set_option maxRecDepth 100000
set_option maxHeartbeats 1000000
/-! MI8: each construct of an expression: what MI1 tells of it holds in the model. -/
namespace MI
open PySem PySem.Spec PyProof.Rows L2
section
variable (G : Gm) (E : XW)
def Rdg {α β : Type} (rel : Hp → List Addr → α → β → Prop) (ev : Env → Hs → Res α) : L2.St → Hp → (β → Hp → Prop) → Prop := fun τ H Q =>
  ∃ ι σ h, σ.length = τ.length ∧ SimH G ι h H ∧ SimE G ι H σ τ ∧ Post G rel ι H (ev σ h) Q E
abbrev rE (κ : Orc) (e : IE) : TE := Rdg G E (DV G) (evE κ e)
abbrev rEs (κ : Orc) (es : IEs) : TA := Rdg G E (DVs G) (evEs κ es)
def relB : Hp → List Addr → Bool → Bool → Prop := fun _ _ a b => a = b
abbrev rB (κ : Orc) (e : IE) : TT := Rdg G E relB (evB κ e)
end
section
variable {X : Cx} {e : Expr}
theorem PEm {t t' : TE} (h : PE X e t) (m : ∀ σ H Q, t' σ H Q → t σ H Q) : PE X e t' := ⟨fun pins s σ H Q I q => h.run pins s σ H Q I (m σ H Q q)⟩
theorem PTm {t t' : TT} (h : PT X e t) (m : ∀ σ H Q, t' σ H Q → t σ H Q) : PT X e t' := ⟨fun pins s σ H Q I q => h.run pins s σ H Q I (m σ H Q q)⟩
theorem PWm {t t' : TT} (h : PW X e t) (m : ∀ σ H Q, t' σ H Q → t σ H Q) : PW X e t' := ⟨fun w pins s σ H Q I q => h.run w pins s σ H Q I (m σ H Q q)⟩
theorem PAm {es : List Expr} {t t' : TA} (h : PA X es t) (m : ∀ σ H Q, t' σ H Q → t σ H Q) : PA X es t' := ⟨fun p pins s σ H Q I q => h.run p pins s σ H Q I (m σ H Q q)⟩
theorem PSm {st : Stmt} {t t' : TS} (h : PS X st t) (m : ∀ D σ H, t' D σ H → t D σ H) : PS X st t' := ⟨fun pins s σ H D I q => h.run pins s σ H D I (m D σ H q)⟩
theorem PSsm {st : List Stmt} {t t' : TS} (h : PSs X st t) (m : ∀ D σ H, t' D σ H → t D σ H) : PSs X st t' := ⟨fun pins s σ H D I q => h.run pins s σ H D I (m D σ H q)⟩
end
section
variable {G : Gm} {E : XW} {α β γ δ : Type} {rel : Hp → List Addr → α → β → Prop} {rel1 : Hp → List Addr → γ → δ → Prop} {τ : L2.St} {H : Hp}
/-- two pieces, one behind the other -/
theorem Rdg.seq {ev1 : Env → Hs → Res γ} {k : Env → γ → Hs → Res α} {Q : β → Hp → Prop} {Q1 : δ → Hp → Prop} (r : Rdg G E rel (fun σ h => (ev1 σ h).bind (k σ)) τ H Q)
    (f : ∀ (ι1 : List Addr) (σ : Env) (a : γ) (h1 : Hs) (H1 : Hp) (v1 : δ), σ.length = τ.length → SimH G ι1 h1 H1 → SimE G ι1 H1 σ τ → rel1 H1 ι1 a v1 → Post G rel ι1 H1 (k σ a h1) Q E → Q1 v1 H1) : Rdg G E rel1 ev1 τ H Q1 := by
  obtain ⟨ι, σ, h, l, S, SE, p⟩ := r
  exact ⟨ι, σ, h, l, S, SE, p.seq fun a h1 ι1 H1 v1 n s d q => f ι1 σ a h1 H1 v1 l s (SE.next n) d q⟩
theorem Rdg.mk {ev : Env → Hs → Res α} {Q : β → Hp → Prop} {ι : List Addr} {σ : Env} {h : Hs} (l : σ.length = τ.length) (S : SimH G ι h H) (SE : SimE G ι H σ τ) (p : Post G rel ι H (ev σ h) Q E) : Rdg G E rel ev τ H Q := ⟨ι, σ, h, l, S, SE, p⟩
end
section
variable {G : Gm} {E : XW} {κ : Orc} {X : Cx} {a b c : Expr} {ia ib ic : IE} {pos : Pos}
/-! ### constants, names -/
theorem xC_int {i : Int} {k : Nat} : PE X (.Constant (.int i) k pos) (rE G E κ (.c (.int i))) := PEm pe_int fun σ H Q ⟨ι, σ', h, l, S, SE, p⟩ => p.ok S DV.int
theorem xC_bl {i : Bool} {k : Nat} : PE X (.Constant (.bool i) k pos) (rE G E κ (.c (.bl i))) := PEm pe_bl fun σ H Q ⟨ι, σ', h, l, S, SE, p⟩ => p.ok S DV.bl
theorem xC_non {k : Nat} : PE X (.Constant .none k pos) (rE G E κ (.c .non)) := PEm pe_non fun σ H Q ⟨ι, σ', h, l, S, SE, p⟩ => p.ok S DV.non
theorem toStr_of (x : Str) : toStr x.cps.toList = x := TL.ext_tl rfl
theorem xC_str {x : Str} {k : Nat} (hx : SOk x.cps.toList) : PE X (.Constant (.str x) k pos) (rE G E κ (.c (.str x.cps.toList))) := PEm pe_str fun σ H Q ⟨ι, σ', h, l, S, SE, p⟩ => by
  have := p.ok S (DV.str hx)
  rw [toStr_of] at this
  exact this
theorem xV {i : Nat} {x : Str} (hN : X.N[i]? = some x) (hv : Vis X.env.scope x) (hd : (x == ("__debug__" : Str)) = false) (hcd : (x == ("__classdict__" : Str)) = false) : PE X (.Name x pos) (rE G E κ (.v i)) :=
  PEm (pe_var hN hv hd hcd) fun σ H Q ⟨ι, σ', h, l, S, SE, p⟩ => by
    have p' : PostD G ι H (match σ'[i]? with
      | some (some d) => Res.ok d h
      | _ => .stuck) Q E := p
    split at p'
    · rename_i d hd
      obtain ⟨v, hv, dv⟩ := SE i d hd
      exact ⟨v, hv, p'.ok S dv⟩
    · exact p'.elim
theorem xGlob {x : Str} {d : D} {v : V} {u : Value} (hg : Gl X x) (hm : X.mg x = some u) (r : RelV v u) (hd : (x == ("__debug__" : Str)) = false) (dv : ∀ ι H, DV G H ι d v) : PE X (.Name x pos) (rE G E κ (.c d)) :=
  PEm (pe_glob hg hm r hd) fun σ H Q ⟨ι, σ', h, l, S, SE, p⟩ => p.ok S (dv _ _)
/-! ### rows of expressions -/
theorem xNil : PA X [] (rEs G E κ .nil) := PAm pa_nil fun σ H Q ⟨ι, σ', h, l, S, SE, p⟩ => p.ok S DVs.nil
theorem xCons {e : Expr} {es : List Expr} {ie : IE} {ies : IEs} (h1 : PE X e (rE G E κ ie)) (h2 : PA X es (rEs G E κ ies)) (hs : starEach (e :: es) X.env = (false, eval e X.env) :: starEach es X.env) : PA X (e :: es) (rEs G E κ (.cons ie ies)) :=
  PAm (pa_cons h1 h2 hs) fun σ H Q r => by
    refine Rdg.seq (k := fun σ d h => (evEs κ ies σ h).bind fun ds h => .ok (d :: ds) h) r fun ι1 σ1 d h1 H1 v1 l S SE dv p => ?_
    exact ⟨ι1, σ1, h1, l, S, SE, Post.seq p fun ds h2 ι2 H2 vs n s d p2 => p2.ok s (DVs.cons (DV.next n _ _ dv) d)⟩
theorem xTup {es : List Expr} {ies : IEs} {k : Nat} (h : PA X es (rEs G E κ ies)) : PE X (.Tuple es k pos) (rE G E κ (.tup ies)) :=
  PEm (pe_tup h) fun σ H Q r => by
    refine Rdg.seq (k := fun _ ds h => if ds.length ≤ L then Res.ok (D.tup ds) h else .stuck) r fun ι1 σ1 ds h1 H1 vs l S SE dv p => ?_
    split at p
    · rename_i hl
      exact ⟨by rw [← dv.length, sizeLine_eq]; exact hl, fun a ha => p.newTup S hl dv ha⟩
    · exact p.elim
theorem xLst {es : List Expr} {ies : IEs} (h : PA X es (rEs G E κ ies)) : PE X (.List es pos) (rE G E κ (.lst ies)) :=
  PEm (pe_lst h) fun σ H Q r => by
    refine Rdg.seq (k := fun _ ds h => newL ds h) r fun ι1 σ1 ds h1 H1 vs l S SE dv p => ?_
    unfold newL at p
    split at p
    · rename_i hl
      exact ⟨by rw [← dv.length, sizeLine_eq]; exact hl, fun a ha => p.newLst S hl dv ha⟩
    · exact p.elim
/-! ### operators -/
theorem seq2 {op : D → D → Hs → Res D} {τ : L2.St} {H : Hp} {Q : VK} (r : Rdg G E (DV G) (fun σ h => (evE κ ia σ h).bind fun x h => (evE κ ib σ h).bind fun y h => op x y h) τ H Q) : tOp (r2D G E op) (rE G E κ ia) (rE G E κ ib) τ H Q := by
  refine Rdg.seq (k := fun σ x h => (evE κ ib σ h).bind fun y h => op x y h) r fun ι1 σ1 x h1 H1 u l S SE dx p => ?_
  exact ⟨ι1, σ1, h1, l, S, SE, Post.seq p fun y h2 ι2 H2 v n s dy p2 => ⟨ι2, x, y, h2, s, DV.next n _ _ dx, dy, p2⟩⟩
theorem seq2B {op : D → D → Hs → Option Bool} {τ : L2.St} {H : Hp} {Q Q' : VK} (f : ∀ b H', Q (.bl b) H' → Q' (.bl b) H') (r : Rdg G E (DV G) (fun σ h => (evE κ ia σ h).bind fun x h => (evE κ ib σ h).bind fun y h => lift h ((op x y h).map D.bl)) τ H Q) : tOp (r2B G op) (rE G E κ ia) (rE G E κ ib) τ H Q' := by
  refine Rdg.seq (k := fun σ x h => (evE κ ib σ h).bind fun y h => lift h ((op x y h).map D.bl)) r fun ι1 σ1 x h1 H1 u l S SE dx p => ?_
  refine ⟨ι1, σ1, h1, l, S, SE, Post.seq p fun y h2 ι2 H2 v n s dy p2 => ?_⟩
  cases e : op x y h2 with
  | none => rw [e] at p2; exact p2.elim
  | some b => rw [e] at p2; exact ⟨ι2, x, y, h2, b, s, DV.next n _ _ dx, dy, e, f _ _ (p2.ok s DV.bl)⟩
def opOf : Operator → Option BO
  | .Add => some .add
  | .Sub => some .sub
  | .Mult => some .mul
  | .FloorDiv => some .fdiv
  | .Mod => some .mod
  | .Pow => some .pow
  | _ => none
theorem xBin {op : Operator} {o : BO} (hK : X.K = G.K) (ho : opOf op = some o) (ha : PE X a (rE G E κ ia)) (hb : PE X b (rE G E κ ib)) : PE X (.BinOp a op b pos) (rE G E κ (.bin o ia ib)) := by
  cases op <;> simp only [opOf, Option.some.injEq, reduceCtorEq] at ho <;> subst ho
  · exact PEm (pe_op (op_addD hK) ha hb) fun σ H Q r => seq2 r
  · exact PEm (pe_op op_subD ha hb) fun σ H Q r => seq2 r
  · exact PEm (pe_op (op_mulD hK) ha hb) fun σ H Q r => seq2 r
  · exact PEm (pe_op op_modD ha hb) fun σ H Q r => seq2 r
  · exact PEm (pe_op op_powD ha hb) fun σ H Q r => seq2 r
  · exact PEm (pe_op op_divD ha hb) fun σ H Q r => seq2 r
def coOf : CmpOp → Option CO
  | .Eq => some .eq
  | .NotEq => some .ne
  | .Lt => some .lt
  | .LtE => some .le
  | .Gt => some .gt
  | .GtE => some .ge
  | .Is => some .is
  | .IsNot => some .isn
  | .In => some .in_
  | .NotIn => some .nin
theorem opCmp {op : CmpOp} {o : CO} (hK : X.K = G.K) (hu : X.A.units + 65 < cLine) (ho : coOf op = some o) : OpR X (compareOp op) (r2B G (cmpop o)) := by
  cases op <;> simp only [coOf, Option.some.injEq] at ho <;> subst ho
  · exact op_eqB hK (by omega)
  · exact op_neB hK (by omega)
  · exact op_ltIB op_lt
  · exact op_ltIB op_le
  · exact op_ltIB op_gt
  · exact op_ltIB op_ge
  · exact op_isB
  · exact op_isnB
  · exact op_inB hK hu
  · exact op_ninB hK hu
theorem xCmp {op : CmpOp} {o : CO} (hK : X.K = G.K) (hu : X.A.units + 65 < cLine) (ho : coOf op = some o) (hm : behindInMarks op b = false) (ha : PE X a (rE G E κ ia)) (hb : PE X b (rE G E κ ib)) : PE X (.Compare a [op] [b] pos) (rE G E κ (.cmp o ia ib)) :=
  PEm (pe_cmpR (opCmp hK hu ho) ha hb hm) fun σ H Q r => seq2B (fun _ _ q => q) r
/-- a test's reading, from its value's -/
theorem rB_rE (hK : X.K = G.K) {e : IE} {τ : L2.St} {H : Hp} {Q : Bool → Hp → Prop} (r : rB G E κ e τ H Q) : rE G E κ e τ H (fun v H' => ∃ k, TruV X.K v H' k ∧ Q k H') := by
  refine Rdg.seq (k := fun _ d h => lift h (truth h d)) r fun ι1 σ1 d h1 H1 v l S SE dv p => ?_
  cases e : truth h1 d with
  | none => rw [e] at p; exact p.elim
  | some k => rw [e] at p; exact ⟨k, truth_ok hK S dv e, p.ok S rfl⟩
theorem tCmp_ {op : CmpOp} {o : CO} (hK : X.K = G.K) (hu : X.A.units + 65 < cLine) (ho : coOf op = some o) (hm : behindInMarks op b = false) (ha : PE X a (rE G E κ ia)) (hb : PE X b (rE G E κ ib)) : PT X (.Compare a [op] [b] pos) (rB G E κ (.cmp o ia ib)) :=
  PTm (pt_cmpR (opCmp hK hu ho) ha hb hm) fun σ H Q r => seq2B (fun b H' ⟨k, e, q⟩ => by
    have e' : k = b := e
    subst e'
    exact ⟨_, rfl, q⟩) (rB_rE (X := X) hK r)
/-- any value as a test -/
theorem tAny_ (hK : X.K = G.K) (ha : PE X a (rE G E κ ia)) (he : ∀ whole, isTrue a X.env whole = (do let v ← whole; standAt a.pos; holding [v] (truthy v))) : PT X a (rB G E κ ia) :=
  PTm (pt_truth ha he) fun σ H Q r => rB_rE hK r
theorem seq3B {o p : CO} {τ : L2.St} {H : Hp} {Q Q' : VK} (f : ∀ b H', Q (.bl b) H' → Q' (.bl b) H') (r : rE G E κ (.chn o p ia ib ic) τ H Q) : tChain (r2B G (cmpop o)) (r2B G (cmpop p)) (rE G E κ ia) (rE G E κ ib) (rE G E κ ic) τ H Q' := by
  refine Rdg.seq (k := fun σ x h => (evE κ ib σ h).bind fun y h => match cmpop o x y h with
    | some true => (evE κ ic σ h).bind fun z h => lift h ((cmpop p y z h).map D.bl)
    | some false => .ok (D.bl false) h
    | none => .stuck) r fun ι1 σ1 x h1 H1 u l S SE dx q1 => ?_
  refine ⟨ι1, σ1, h1, l, S, SE, Post.seq q1 fun y h2 ι2 H2 v n s dy q2 => ?_⟩
  cases e : cmpop o x y h2 with
  | none => rw [e] at q2; exact q2.elim
  | some b =>
    rw [e] at q2
    refine ⟨ι2, x, y, h2, b, s, DV.next n _ _ dx, dy, e, b, rfl, ?_⟩
    cases b with
    | false => exact f _ _ (q2.ok s DV.bl)
    | true =>
      refine ⟨ι2, σ1, h2, l, s, SE.next n, Post.seq q2 fun z h3 ι3 H3 w n3 s3 dz q3 => ?_⟩
      cases e2 : cmpop p y z h3 with
      | none => rw [e2] at q3; exact q3.elim
      | some b => rw [e2] at q3; exact ⟨ι3, y, z, h3, b, s3, DV.next n3 _ _ dy, dz, e2, f _ _ (q3.ok s3 DV.bl)⟩
theorem xChn {op op' : CmpOp} {o p : CO} (hK : X.K = G.K) (hu : X.A.units + 65 < cLine) (ho : coOf op = some o) (hp : coOf op' = some p) (hm : lastMarks [op, op'] [b, c] = false) (ha : PE X a (rE G E κ ia)) (hb : PE X b (rE G E κ ib)) (hc : PE X c (rE G E κ ic)) : PE X (.Compare a [op, op'] [b, c] pos) (rE G E κ (.chn o p ia ib ic)) :=
  PEm (pe_chain (opCmp hK hu ho) (opCmp hK hu hp) ha hb hc hm) fun σ H Q r => seq3B (fun _ _ q => q) r
theorem tChn {op op' : CmpOp} {o p : CO} (hK : X.K = G.K) (hu : X.A.units + 65 < cLine) (ho : coOf op = some o) (hp : coOf op' = some p) (hm : lastMarks [op, op'] [b, c] = false) (ha : PE X a (rE G E κ ia)) (hb : PE X b (rE G E κ ib)) (hc : PE X c (rE G E κ ic)) : PT X (.Compare a [op, op'] [b, c] pos) (rB G E κ (.chn o p ia ib ic)) :=
  PTm (pt_chain (opCmp hK hu ho) (opCmp hK hu hp) ha hb hc hm) fun σ H Q r => seq3B (fun b H' ⟨k, e, q⟩ => by
    have e' : k = b := e
    subst e'
    exact ⟨_, rfl, q⟩) (rB_rE (X := X) hK r)
/-! ### and, or, not, if -/
variable {rest : List Expr}
theorem xAnd1 (ha : PE X a (rE G E κ ia)) {o : BoolOp} : PE X (.BoolOp o [a] pos) (rE G E κ ia) := pe_one ha
theorem xAnd (hK : X.K = G.K) (ha : PE X a (rE G E κ ia)) (hb : PE X (.BoolOp .And (b :: rest) pos) (rE G E κ ib)) : PE X (.BoolOp .And (a :: b :: rest) pos) (rE G E κ (.and ia ib)) :=
  PEm (pe_andT ha hb) fun σ H Q r => by
    refine Rdg.seq (k := fun σ x h => match truth h x with
      | some true => evE κ ib σ h
      | some false => .ok x h
      | none => .stuck) r fun ι1 σ1 x h1 H1 u l S SE dx q1 => ?_
    cases e : truth h1 x with
    | none => rw [e] at q1; exact q1.elim
    | some k =>
      rw [e] at q1
      refine ⟨k, truth_ok hK S dx e, ?_⟩
      cases k with
      | true => rw [if_pos rfl]; exact ⟨ι1, σ1, h1, l, S, SE, q1⟩
      | false => rw [if_neg (by decide)]; exact q1.ok S dx
theorem xOr (hK : X.K = G.K) (ha : PE X a (rE G E κ ia)) (hb : PE X (.BoolOp .Or (b :: rest) pos) (rE G E κ ib)) : PE X (.BoolOp .Or (a :: b :: rest) pos) (rE G E κ (.or ia ib)) :=
  PEm (pe_orT ha hb) fun σ H Q r => by
    refine Rdg.seq (k := fun σ x h => match truth h x with
      | some true => .ok x h
      | some false => evE κ ib σ h
      | none => .stuck) r fun ι1 σ1 x h1 H1 u l S SE dx q1 => ?_
    cases e : truth h1 x with
    | none => rw [e] at q1; exact q1.elim
    | some k =>
      rw [e] at q1
      refine ⟨k, truth_ok hK S dx e, ?_⟩
      cases k with
      | false => rw [if_neg (by decide)]; exact ⟨ι1, σ1, h1, l, S, SE, q1⟩
      | true => rw [if_pos rfl]; exact q1.ok S dx
theorem xNot (hK : X.K = G.K) (ha : PE X a (rE G E κ ia)) : PE X (.UnaryOp .Not a pos) (rE G E κ (.not ia)) :=
  PEm (pe_notT ha) fun σ H Q r => by
    refine Rdg.seq (k := fun _ x h => lift h ((truth h x).map fun b => D.bl (!b))) r fun ι1 σ1 x h1 H1 u l S SE dx q1 => ?_
    cases e : truth h1 x with
    | none => rw [e] at q1; exact q1.elim
    | some k => rw [e] at q1; exact ⟨k, truth_ok hK S dx e, q1.ok S DV.bl⟩
theorem xNeg (ha : PE X a (rE G E κ ia)) : PE X (.UnaryOp .USub a pos) (rE G E κ (.neg ia)) :=
  PEm (pe_un un_neg ha) fun σ H Q r => by
    refine Rdg.seq (k := fun _ x h => match x with
      | .int i => .ok (D.int (-i)) h
      | _ => .stuck) r fun ι1 σ1 x h1 H1 u l S SE dx q1 => ?_
    split at q1
    · exact ⟨_, dx.int_inv, q1.ok S DV.int⟩
    · exact q1.elim
theorem W_tr {α : Type} {r : Res D} {Q : α → Hs → Prop} {E' : D → Hs → Prop} {f : Bool → Hs → Res α} : (r.bind fun x h => (lift h (truth h x)).bind f).W Q E' ↔ ((r.bind fun x h => lift h (truth h x)).bind f).W Q E' := by
  cases r with
  | ok a h => exact Iff.rfl
  | err x h => exact Iff.rfl
  | stuck => exact Iff.rfl
theorem wAnd1 (ha : PT X a (rB G E κ ia)) : PW X (.BoolOp .And [a] pos) (rB G E κ ia) := pw_and1 ha
theorem wOr1 (ha : PT X a (rB G E κ ia)) : PW X (.BoolOp .Or [a] pos) (rB G E κ ia) := pw_or1 ha
theorem evB_and (σ : Env) (h : Hs) : evB κ (.and ia ib) σ h = (evB κ ia σ h).bind fun c h => if c then evB κ ib σ h else .ok false h := by
  show ((evE κ ia σ h).bind _).bind _ = ((evE κ ia σ h).bind _).bind _
  cases evE κ ia σ h with
  | ok x h1 =>
    show (match truth h1 x with
      | some true => evE κ ib σ h1
      | some false => Res.ok x h1
      | none => .stuck).bind (fun d h => lift h (truth h d)) = (lift h1 (truth h1 x)).bind _
    cases e : truth h1 x with
    | none => rfl
    | some k =>
      cases k with
      | true => rfl
      | false =>
        show lift h1 (truth h1 x) = _
        rw [e]; rfl
  | err x h1 => rfl
  | stuck => rfl
theorem evB_or (σ : Env) (h : Hs) : evB κ (.or ia ib) σ h = (evB κ ia σ h).bind fun c h => if c then .ok true h else evB κ ib σ h := by
  show ((evE κ ia σ h).bind _).bind _ = ((evE κ ia σ h).bind _).bind _
  cases evE κ ia σ h with
  | ok x h1 =>
    show (match truth h1 x with
      | some true => Res.ok x h1
      | some false => evE κ ib σ h1
      | none => .stuck).bind (fun d h => lift h (truth h d)) = (lift h1 (truth h1 x)).bind _
    cases e : truth h1 x with
    | none => rfl
    | some k =>
      cases k with
      | false => rfl
      | true =>
        show lift h1 (truth h1 x) = _
        rw [e]; rfl
  | err x h1 => rfl
  | stuck => rfl
theorem evB_not (σ : Env) (h : Hs) : evB κ (.not ia) σ h = (evB κ ia σ h).bind fun c h => .ok (!c) h := by
  show ((evE κ ia σ h).bind _).bind _ = ((evE κ ia σ h).bind _).bind _
  cases evE κ ia σ h with
  | ok x h1 =>
    show (lift h1 ((truth h1 x).map fun b => D.bl (!b))).bind (fun d h => lift h (truth h d)) = (lift h1 (truth h1 x)).bind _
    cases e : truth h1 x with
    | none => rfl
    | some k => rfl
  | err x h1 => rfl
  | stuck => rfl
theorem evB_ite (σ : Env) (h : Hs) : evB κ (.ite ic ia ib) σ h = (evB κ ic σ h).bind fun c h => if c then evB κ ia σ h else evB κ ib σ h := by
  show ((evE κ ic σ h).bind _).bind _ = ((evE κ ic σ h).bind _).bind _
  cases evE κ ic σ h with
  | ok x h1 =>
    show (match truth h1 x with
      | some true => evE κ ia σ h1
      | some false => evE κ ib σ h1
      | none => .stuck).bind (fun d h => lift h (truth h d)) = (lift h1 (truth h1 x)).bind _
    cases e : truth h1 x with
    | none => rfl
    | some k => cases k <;> rfl
  | err x h1 => rfl
  | stuck => rfl
theorem Rdg.eq {α β : Type} {rel : Hp → List Addr → α → β → Prop} {ev ev' : Env → Hs → Res α} {τ : L2.St} {H : Hp} {Q : β → Hp → Prop} (e : ∀ σ h, ev σ h = ev' σ h) (r : Rdg G E rel ev τ H Q) : Rdg G E rel ev' τ H Q := by
  have : ev = ev' := funext fun σ => funext fun h => e σ h
  rw [← this]; exact r
theorem wAnd (ha : PT X a (rB G E κ ia)) (hb : PW X (.BoolOp .And (b :: rest) pos) (rB G E κ ib)) : PW X (.BoolOp .And (a :: b :: rest) pos) (rB G E κ (.and ia ib)) :=
  PWm (pw_and ha hb) fun σ H Q r => by
    refine Rdg.seq (rel1 := relB) (Rdg.eq evB_and r) fun ι1 σ1 c h1 H1 k l S SE dx q1 => ?_
    have e : c = k := dx
    subst e
    cases c with
    | true => exact ⟨ι1, σ1, h1, l, S, SE, q1⟩
    | false => rw [if_neg (by decide)]; exact q1.ok S rfl
theorem wOr (ha : PT X a (rB G E κ ia)) (hb : PW X (.BoolOp .Or (b :: rest) pos) (rB G E κ ib)) : PW X (.BoolOp .Or (a :: b :: rest) pos) (rB G E κ (.or ia ib)) :=
  PWm (pw_or ha hb) fun σ H Q r => by
    refine Rdg.seq (rel1 := relB) (Rdg.eq evB_or r) fun ι1 σ1 c h1 H1 k l S SE dx q1 => ?_
    have e : c = k := dx
    subst e
    cases c with
    | true => rw [if_pos rfl]; exact q1.ok S rfl
    | false => exact ⟨ι1, σ1, h1, l, S, SE, q1⟩
theorem tNot_ (ha : PT X a (rB G E κ ia)) : PT X (.UnaryOp .Not a pos) (rB G E κ (.not ia)) :=
  PTm (pt_not ha) fun σ H Q r => by
    refine Rdg.seq (rel1 := relB) (Rdg.eq evB_not r) fun ι1 σ1 c h1 H1 k l S SE dx q1 => ?_
    have e : c = k := dx
    subst e
    exact q1.ok S rfl
theorem pt_ifE {tc ta tb : TT} (hc : PT X c tc) (ha : PT X a ta) (hb : PT X b tb) : PT X (.IfExp c a b pos) (fun σ H Q => tc σ H fun k H1 => if k = true then ta σ H1 Q else tb σ H1 Q) := by
  refine ⟨fun pins s σ H Q I h => ?_⟩
  show wpAny _ _ (isTrue c X.env (eval c X.env) >>= fun r => if r = true then isTrue a X.env (eval a X.env) else isTrue b X.env (eval b X.env)) _ _ _
  refine wpAny_bind (thn (hc.run pins s σ H _ I h) fun k s1 ⟨H1, I1, q1⟩ => ?_)
  cases k with
  | true => exact ha.run pins s1 σ H1 Q I1 q1
  | false => exact hb.run pins s1 σ H1 Q I1 q1
theorem tIte (hc : PT X c (rB G E κ ic)) (ha : PT X a (rB G E κ ia)) (hb : PT X b (rB G E κ ib)) : PT X (.IfExp c a b pos) (rB G E κ (.ite ic ia ib)) :=
  PTm (pt_ifE hc ha hb) fun σ H Q r => by
    refine Rdg.seq (rel1 := relB) (Rdg.eq evB_ite r) fun ι1 σ1 c h1 H1 k l S SE dx q1 => ?_
    have e : c = k := dx
    subst e
    cases c with
    | true => exact ⟨ι1, σ1, h1, l, S, SE, q1⟩
    | false => exact ⟨ι1, σ1, h1, l, S, SE, q1⟩
theorem evE_ite (σ : Env) (h : Hs) : evE κ (.ite ic ia ib) σ h = (evB κ ic σ h).bind fun c h => if c then evE κ ia σ h else evE κ ib σ h := by
  show (evE κ ic σ h).bind _ = ((evE κ ic σ h).bind _).bind _
  cases evE κ ic σ h with
  | ok x h1 =>
    show (match truth h1 x with
      | some true => evE κ ia σ h1
      | some false => evE κ ib σ h1
      | none => .stuck) = (lift h1 (truth h1 x)).bind _
    cases e : truth h1 x with
    | none => rfl
    | some k => cases k <;> rfl
  | err x h1 => rfl
  | stuck => rfl
theorem xIte (hc : PT X c (rB G E κ ic)) (ha : PE X a (rE G E κ ia)) (hb : PE X b (rE G E κ ib)) : PE X (.IfExp c a b pos) (rE G E κ (.ite ic ia ib)) :=
  PEm (pe_ifExp hc ha hb) fun σ H Q r => by
    refine Rdg.seq (rel1 := relB) (Rdg.eq evE_ite r) fun ι1 σ1 c h1 H1 k l S SE dx q1 => ?_
    have e : c = k := dx
    subst e
    cases c with
    | true => exact ⟨ι1, σ1, h1, l, S, SE, q1⟩
    | false => exact ⟨ι1, σ1, h1, l, S, SE, q1⟩
/-! ### items, slices -/
theorem xIx (hK : X.K = G.K) (hu : X.A.units + 1 < cLine) (hp : PlainIx b) (ha : PE X a (rE G E κ ia)) (hb : PE X b (rE G E κ ib)) : PE X (.Subscript a b pos) (rE G E κ (.ix ia ib)) :=
  PEm (pe_ix (ix_D (E := E) hK hu) ha hb hp) fun σ H Q r => seq2 r
abbrev rO (G : Gm) (E : XW) (κ : Orc) (o : IO) : TO := Rdg G E (fun _ _ (d l : Option Int) => d = l) (evO κ o)
theorem POm {e : Option Expr} {t t' : TO} (h : PO X e t) (m : ∀ σ H Q, t' σ H Q → t σ H Q) : PO X e t' := ⟨fun pins s σ H Q I q => h.run pins s σ H Q I (m σ H Q q)⟩
theorem oNone : PO X none (rO G E κ .none) := POm po_none fun σ H Q ⟨ι, σ', h, l, S, SE, p⟩ => p.ok S rfl
theorem oSome (ha : PE X a (rE G E κ ia)) : PO X (some a) (rO G E κ (.some ia)) := POm (po_some ha) fun σ H Q r => by
  refine Rdg.seq (k := fun _ d h => match d with
    | .int i => .ok (some i) h
    | _ => .stuck) r fun ι1 σ1 x h1 H1 u l S SE dx q1 => ?_
  split at q1
  · exact ⟨_, dx.int_inv, q1.ok S rfl⟩
  · exact q1.elim
theorem xSl {lo hi : Option Expr} {il ih : IO} {p2 : Pos} (hK : X.K = G.K) (ha : PE X a (rE G E κ ia)) (hl : PO X lo (rO G E κ il)) (hh : PO X hi (rO G E κ ih)) : PE X (.Subscript a (.Slice lo hi none p2) pos) (rE G E κ (.sl ia il ih)) :=
  PEm (pe_slice (sl_D (E := E) hK) ha hl hh) fun σ H Q r => by
    refine Rdg.seq (k := fun σ x h => (evO κ il σ h).bind fun l h => (evO κ ih σ h).bind fun r h => slice x l r h) r fun ι1 σ1 x h1 H1 u l S SE dx q1 => ?_
    refine ⟨ι1, σ1, h1, l, S, SE, Post.seq q1 fun y h2 ι2 H2 v n s dy q2 => ?_⟩
    refine ⟨ι2, σ1, h2, l, s, SE.next n, Post.seq q2 fun z h3 ι3 H3 w n3 s3 dz q3 => ?_⟩
    have e1 : y = v := dy
    have e2 : z = w := dz
    subst e1 e2
    exact ⟨ι3, x, h3, s3, DV.next (n.trans n3) _ _ dx, q3⟩
/-! ### calls -/
/-- a def's promise: what MI1's call comes to -/
def spF (G : Gm) (E : XW) (ar : Nat) (f : List D → Hs → Res D) : Sp := fun vs H Q _ => ∃ ι ds h, ds.length = ar ∧ SimH G ι h H ∧ DVs G H ι ds vs ∧ PostD G ι H (f ds h) Q E
theorem xCall {k j f : Nat} {fa : Addr} {fd : FuncData} {ps : List Str} {x : Str} {e : Expr} {es : List Expr} {ies : IEs} {p : Pos} (F : FnOk X.prog X.w X.K X.mg X.base CX0 k fa fd ps (spF G E ps.length (κ.call f))) (hr : Room k X.A) (hg : Gl X x) (hm : X.mg x = some (.ref fa)) (hk : PySem.W.keepIn X.K (.ref fa) = true)
    (hb : Binds X.K fd ps []) (hd : (x == ("__debug__" : Str)) = false) (ha : PA X (e :: es) (rEs G E κ ies)) (he : starEach (e :: es) X.env = (false, eval e X.env) :: starEach es X.env) (hpl : (backTo pos (starEach es X.env)).any (·.1) = false) (hl : ∀ σ h ds h', evEs κ ies σ h = .ok ds h' → ds.length = ps.length) :
    PE X (.Call (.Name x p) (e :: es) [] pos) (rE G E κ (.call f ies)) :=
  PEm (pe_call F hr hg hm hk hb .nil pass0 ha hd he hpl) fun σ H Q r => by
    obtain ⟨ι, σ', h, l, S, SE, p⟩ := r
    refine ⟨ι, σ', h, l, S, SE, ?_⟩
    show Post G (DVs G) ι H (evEs κ ies σ' h) _ E
    have p' : Post G (DV G) ι H ((evEs κ ies σ' h).bind fun ds h => κ.call f ds h) Q E := p
    cases ev : evEs κ ies σ' h with
    | ok ds h1 =>
      rw [ev] at p'
      intro ι1 H1 vs n s d
      refine ⟨ι1, ds, h1, hl _ _ _ _ ev, s, by rw [List.append_nil]; exact d, ?_⟩
      have p2 : Post G (DV G) ι H (κ.call f ds h1) Q E := p'
      exact Res.W.mono p2 (fun b h2 q ι2 H2 v2 n2 s2 d2 => q ι2 H2 v2 (n.trans n2) s2 d2) (fun x h2 q ι2 H2 n2 s2 => q ι2 H2 (n.trans n2) s2)
    | err x h1 => rw [ev] at p'; exact p'
    | stuck => rw [ev] at p'; exact p'.elim
theorem xBi {b : BI} {id : String} {x : Str} {e : Expr} {es : List Expr} {ies : IEs} {p : Pos} {f : List D → Hs → Res D} (hf : ∀ ds h, builtin b ds h = f ds h) (hc : CallR X (.builtin id) (rND G E f)) (hg : Gl X x) (hm : X.mg x = none) (hv : bootBuiltins x = some (.builtin id)) (ha : PA X (e :: es) (rEs G E κ ies)) (hn : x ≠ "__name__") (hdb : (x == ("__debug__" : Str)) = false)
    (he : starEach (e :: es) X.env = (false, eval e X.env) :: starEach es X.env) (hpl : (backTo pos (starEach es X.env)).any (·.1) = false) : PE X (.Call (.Name x p) (e :: es) [] pos) (rE G E κ (.bi b ies)) :=
  PEm (pe_callB hc hg hm hv ha hn hdb he hpl) fun σ H Q r => by
    refine Rdg.seq (k := fun _ ds h => builtin b ds h) r fun ι1 σ1 ds h1 H1 vs l S SE dv q1 => ?_
    rw [hf] at q1
    exact ⟨ι1, ds, h1, S, dv, q1⟩
theorem xTy {b : BI} {T : String} {x : Str} {e : Expr} {es : List Expr} {ies : IEs} {p : Pos} {f : List D → Hs → Res D} (hf : ∀ ds h, builtin b ds h = f ds h) (hc : CallR X (.type T) (rND G E f)) (hg : Gl X x) (hm : X.mg x = none) (hv : bootBuiltins x = some (.type T)) (ha : PA X (e :: es) (rEs G E κ ies)) (hn : x ≠ "__name__") (hdb : (x == ("__debug__" : Str)) = false)
    (he : starEach (e :: es) X.env = (false, eval e X.env) :: starEach es X.env) (hpl : (backTo pos (starEach es X.env)).any (·.1) = false) : PE X (.Call (.Name x p) (e :: es) [] pos) (rE G E κ (.bi b ies)) :=
  PEm (pe_callTy hc hg hm hv ha hn hdb he hpl) fun σ H Q r => by
    refine Rdg.seq (k := fun _ ds h => builtin b ds h) r fun ι1 σ1 ds h1 H1 vs l S SE dv q1 => ?_
    rw [hf] at q1
    exact ⟨ι1, ds, h1, S, dv, q1⟩
end
end MI
end

section
set_option Elab.async false
set_option linter.all false
set_option maxRecDepth 100000
set_option maxHeartbeats 1000000
/-! MI9: what is walked, comprehensions, methods, isinstance, dict displays. -/
namespace MI
open PySem PySem.Spec PyProof.Rows L2
/-- the model's iterator hands out what MI1's source tells -/
structure Feeds (G : Gm) (s : Src) (J : It) (ι0 : List Addr) (H0 : Hp) : Prop where
  go : ∀ ι h H i d, Next ι0 H0 ι H → SimH G ι h H → srcAt s h i = some d → J.go i H ∧ ∀ x H', J.yld i H x H' → H' = H ∧ DV G H ι d x
  stop : ∀ ι h H i, Next ι0 H0 ι H → SimH G ι h H → srcEnd s h i = true → J.stop i H
section
variable {G : Gm} {ι : List Addr} {H : Hp} {h : Hs}
theorem feeds_tup {K : PySem.W.Frag} (hK : K = G.K) {ds : List D} {a : Addr} {vs : List V} (t : SqT K H a vs) (q : DVs G H ι ds vs) : Feeds G (.vals ds) (Itt K a) ι H where
  go := fun ι1 h1 H1 i d n S e => by
    obtain ⟨v, hv, dv⟩ := (q.next n).get e
    exact ⟨⟨vs, v, n.grow.sqT t, hv⟩, fun x H' ⟨e1, e2⟩ => ⟨e1, by
      have := e2 vs (n.grow.sqT t)
      rw [hv] at this
      cases this
      exact dv⟩⟩
  stop := fun ι1 h1 H1 i n S e => ⟨vs, n.grow.sqT t, by rw [← q.length]; exact of_decide_eq_true e⟩
theorem feeds_str {x : MI.S} (sx : SOk x) : Feeds G (.vals (chars x)) (Its (toStr x)) ι H where
  go := fun ι1 h1 H1 i d n S e => by
    have e' : (x.map fun c => D.str [c])[i]? = some d := e
    rw [List.getElem?_map] at e'
    obtain ⟨c, hc, rfl⟩ := Option.map_eq_some_iff.mp e'
    have hi : i < x.length := (List.getElem?_eq_some_iff.mp hc).1
    refine ⟨by show i < x.toArray.size; simpa using hi, fun y H' ⟨e1, c', e2, e3⟩ => ⟨e1, ?_⟩⟩
    have : x[i]? = some c' := by simpa [toStr] using e2
    rw [hc] at this
    cases this
    rw [e3]
    exact .str (SOk.one (sx.2 c (List.mem_of_getElem? hc)))
  stop := fun ι1 h1 H1 i n S e => by
    have := of_decide_eq_true (show decide ((chars x).length ≤ i) = true from e)
    show x.toArray.size ≤ i
    simpa [chars] using this
theorem feeds_lst {K : PySem.W.Frag} (hK : K = G.K) {n : Nat} {a : Addr} (ia : ι[n]? = some a) : Feeds G (.dyn n) (Itl K a) ι H where
  go := fun ι1 h1 H1 i d nx S e => by
    simp only [srcAt] at e
    split at e
    · rename_i ds hd
      obtain ⟨t, et⟩ := nx.ext'
      have ia1 : ι1[n]? = some a := by rw [et]; exact ext_get ia
      obtain ⟨vs, tq, _, q⟩ := S.seq hd ia1
      obtain ⟨v, hv, dv⟩ := q.get e
      refine ⟨⟨vs, v, by rw [hK]; exact tq, hv⟩, fun x H' ⟨e1, e2⟩ => ⟨e1, ?_⟩⟩
      have := e2 vs (by rw [hK]; exact tq)
      rw [hv] at this
      cases this
      exact dv
    · cases e
  stop := fun ι1 h1 H1 i nx S e => by
    simp only [srcEnd] at e
    split at e
    · rename_i ds hd
      obtain ⟨t, et⟩ := nx.ext'
      have ia1 : ι1[n]? = some a := by rw [et]; exact ext_get ia
      obtain ⟨vs, tq, _, q⟩ := S.seq hd ia1
      exact ⟨vs, by rw [hK]; exact tq, by rw [← q.length]; exact of_decide_eq_true e⟩
    · cases e
theorem feeds_rol {K : PySem.W.Frag} {ds : List D} {a : Addr} {vs : List V} (t : ∀ ι' H', Next ι H ι' H' → SqL K H' a vs) (q : DVs G H ι ds vs) : Feeds G (.vals ds) (Itl K a) ι H where
  go := fun ι1 h1 H1 i d n S e => by
    obtain ⟨v, hv, dv⟩ := (q.next n).get e
    exact ⟨⟨vs, v, t _ _ n, hv⟩, fun x H' ⟨e1, e2⟩ => ⟨e1, by
      have := e2 vs (t _ _ n)
      rw [hv] at this
      cases this
      exact dv⟩⟩
  stop := fun ι1 h1 H1 i n S e => ⟨vs, t _ _ n, by rw [← q.length]; exact of_decide_eq_true e⟩
theorem feeds_rng {lo : Int} {n : Nat} : Feeds G (.vals ((List.range n).map fun (k : Nat) => D.int (lo + k))) (Itr lo n) ι H where
  go := fun ι1 h1 H1 i d nx S e => by
    have e' : ((List.range n).map fun (k : Nat) => D.int (lo + k))[i]? = some d := e
    rw [List.getElem?_map] at e'
    obtain ⟨c, hc, rfl⟩ := Option.map_eq_some_iff.mp e'
    obtain ⟨hl, hc⟩ := List.getElem?_eq_some_iff.mp hc
    rw [List.getElem_range] at hc
    subst hc
    exact ⟨by show i < n; simpa using hl, fun x H' ⟨e1, e2⟩ => ⟨e1, by rw [e2]; exact .int⟩⟩
  stop := fun ι1 h1 H1 i nx S e => by
    have := of_decide_eq_true (show decide (((List.range n).map fun (k : Nat) => D.int (lo + k)).length ≤ i) = true from e)
    show n ≤ i
    simpa using this
end
section
variable {G : Gm} {E : XW} {κ : Orc} {X : Cx} {a b c : Expr} {ia ib ic : IE} {pos : Pos} {tg : Expr}
def rI (G : Gm) (E : XW) (κ : Orc) (it : II) : TI := fun τ H R => ∃ ι σ h, σ.length = τ.length ∧ SimH G ι h H ∧ SimE G ι H σ τ ∧
  (evI κ it σ h).W (fun s h1 => ∀ ι1 H1 J, Next ι H ι1 H1 → SimH G ι1 h1 H1 → Feeds G s J ι1 H1 → R J H1) (fun x h' => ∀ ι' H', Next ι H ι' H' → SimH G ι' h' H' → E x ι' h' H')
theorem xISeqAt (hK : X.K = G.K) {pins : List (Addr × Obj)} {s : Shared} {τ : L2.St} {H : Hp} {R : It → Hp → Prop} (I : Inv X pins τ H s) (ha : ∀ Q, rE G E κ ia τ H Q → wpAny (model X.prog X.w) X.A (eval a X.env) (EP X pins τ Q) X.xe s) (hr : rI G E κ (.seq ia) τ H R) :
    wpAny (model X.prog X.w) X.A (eval a X.env) (fun v s1 => wpAny (model X.prog X.w) X.A (pyIter v) (PIE X pins τ tg R) X.xe s1) X.xe s := by
  obtain ⟨ι, σ, h, l, S, SE, p⟩ := hr
  have p' : ((evE κ ia σ h).bind fun d h => lift h (srcOf d h)).W (fun s h1 => ∀ ι1 H1 J, Next ι H ι1 H1 → SimH G ι1 h1 H1 → Feeds G s J ι1 H1 → R J H1) (fun x h' => ∀ ι' H', Next ι H ι' H' → SimH G ι' h' H' → E x ι' h' H') := p
  have r : rE G E κ ia τ H (fun v H1 => ∃ ι1 d h1, SimH G ι1 h1 H1 ∧ DV G H1 ι1 d v ∧ ∃ s, srcOf d h1 = some s ∧ ∀ J, Feeds G s J ι1 H1 → R J H1) := by
    refine ⟨ι, σ, h, l, S, SE, ?_⟩
    cases ev : evE κ ia σ h with
    | ok d h1 =>
      rw [ev] at p'
      intro ι1 H1 v n s dv
      have p2 : (lift h1 (srcOf d h1)).W (fun s h1 => ∀ ι1 H1 J, Next ι H ι1 H1 → SimH G ι1 h1 H1 → Feeds G s J ι1 H1 → R J H1) (fun x h' => ∀ ι' H', Next ι H ι' H' → SimH G ι' h' H' → E x ι' h' H') := p'
      cases es : srcOf d h1 with
      | none => rw [es] at p2; exact p2.elim
      | some sr => rw [es] at p2; exact ⟨ι1, d, h1, s, dv, sr, es, fun J f => p2 ι1 H1 J n s f⟩
    | err x h1 => rw [ev] at p'; exact p'
    | stuck => rw [ev] at p'; exact p'.elim
  refine thn (ha _ r) fun v s1 ⟨x, H1, I1, r1, ι1, d, h1, S1, dv, sr, es, q⟩ => ?_
  unfold srcOf at es
  split at es
  · cases es
    obtain ⟨a, vs, rfl, t, _, qs⟩ := dv.tup_inv
    cases r1
    have t' : SqT X.K H1 a vs := by rw [hK]; exact t
    obtain ⟨its, rv, p, hz⟩ := I1.tuple t'
    refine wpAny_pyIter_tuple (show s1.heap.IsTuple a its.toArray from p) ?_
    refine ⟨s1.heap.objs.size, [s1.heap.objs.size], _, _, H1, rfl, I1.kept (t' := s1.toks) fun b o e => Heap.get?_push_of_some _ e, turn_tuple a _, ⟨_, Heap.get?_push_size _ rfl, rfl, rfl⟩, fun b hb => ?_, q _ (feeds_tup hK t' qs)⟩
    have e : b = s1.heap.objs.size := by simpa using hb
    subst e
    exact I1.fpOk (Nat.le_refl _) (I1.hok.fresh (Nat.le_refl _))
  · rename_i x
    cases es
    obtain ⟨e1, sx⟩ := dv.str_inv
    subst e1
    obtain ⟨t, rfl⟩ := r1
    cases ha : (toStr x).cps.all (· < 128)
    · exact wpAny_pyIter_wide ha (pi_one (tk := s1.toks) I1 _ (turn_str _ (toStr x) t "str_iterator" (.inr rfl)) ⟨_, Heap.get?_push_size _ rfl, rfl, rfl⟩ (q _ (feeds_str sx)))
    · exact wpAny_pyIter_ascii ha (pi_one (tk := s1.toks) I1 _ (turn_str _ (toStr x) t "str_ascii_iterator" (.inl rfl)) ⟨_, Heap.get?_push_size _ rfl, rfl, rfl⟩ (q _ (feeds_str sx)))
  · split at es
    · rename_i n ds hd
      cases es
      obtain ⟨a, rfl, ia⟩ := dv.ref_inv
      cases r1
      obtain ⟨vs, tq, _, qs⟩ := S1.seq hd ia
      obtain ⟨its, rv, p, hz⟩ := I1.list (show SqL X.K H1 a vs by rw [hK]; exact tq)
      refine wpAny_pyIter_list p.isList ?_
      refine ⟨s1.heap.objs.size, [s1.heap.objs.size], _, _, H1, rfl, I1.kept (t' := s1.toks) fun b o e => Heap.get?_push_of_some _ e, turn_list a _, ⟨_, Heap.get?_push_size _ rfl, rfl, rfl⟩, fun b hb => ?_, q _ (feeds_lst hK ia)⟩
      have e : b = s1.heap.objs.size := by simpa using hb
      subst e
      exact I1.fpOk (Nat.le_refl _) (I1.hok.fresh (Nat.le_refl _))
    · cases es
  · cases es
    obtain ⟨a, vs, rfl, tq, _, qs⟩ := dv.lst_inv
    cases r1
    have tq' : SqL X.K H1 a vs := by rw [hK]; exact tq
    obtain ⟨its, rv, p, hz⟩ := I1.list tq'
    refine wpAny_pyIter_list p.isList ?_
    have fz : ∀ ι' H', Next ι1 H1 ι' H' → SqL X.K H' a vs := fun ι' H' n => by
      have := DV.next n _ _ dv
      unfold DV at this dv
      obtain ⟨b, ws, e, s, _⟩ := dv
      cases e
      rw [hK]
      rcases s with ⟨o, s⟩ | s
      · have e1 : ws = vs := by
          rcases tq with (z | ⟨o', z⟩) | z
          · rw [s] at z; cases z
          · rw [s] at z; cases z; rfl
          · exact Inv.list_inj I1 (show SqL X.K H1 a ws from .inl (.inr ⟨o, s⟩)) tq'
        subst e1
        exact .inl (.inr ⟨o, n.grow.frz _ _ _ s⟩)
      · have e1 : ws = vs := Inv.list_inj I1 (show SqL X.K H1 a ws by rw [hK]; exact .inr s) tq'
        subst e1
        exact .inr s
    refine ⟨s1.heap.objs.size, [s1.heap.objs.size], _, _, H1, rfl, I1.kept (t' := s1.toks) fun b o e => Heap.get?_push_of_some _ e, turn_list a _, ⟨_, Heap.get?_push_size _ rfl, rfl, rfl⟩, fun b hb => ?_, q _ (feeds_rol fz qs)⟩
    have e : b = s1.heap.objs.size := by simpa using hb
    subst e
    exact I1.fpOk (Nat.le_refl _) (I1.hok.fresh (Nat.le_refl _))
  · cases es
theorem xISeq (hK : X.K = G.K) (ha : PE X a (rE G E κ ia)) : PI X tg a (rI G E κ (.seq ia)) := ⟨fun pins s τ H R I r => xISeqAt hK I (fun Q q => ha.run pins s τ H Q I q) r⟩
theorem PIm {iter : Expr} {wi wi' : TI} (h : PI X tg iter wi) (m : ∀ σ H R, wi' σ H R → wi σ H R) : PI X tg iter wi' := ⟨fun pins s σ H R I q => h.run pins s σ H R I (m σ H R q)⟩
/-- a source's wish -/
abbrev FW (G : Gm) (E : XW) (ι : List Addr) (H : Hp) (r : Res Src) (R : It → Hp → Prop) : Prop := r.W (fun s h1 => ∀ ι1 H1 J, Next ι H ι1 H1 → SimH G ι1 h1 H1 → Feeds G s J ι1 H1 → R J H1) (fun x h' => ∀ ι' H', Next ι H ι' H' → SimH G ι' h' H' → E x ι' h' H')
theorem FW.from {r : Res Src} {ι ι1 : List Addr} {H H1 : Hp} {R : It → Hp → Prop} (p : FW G E ι H r R) (n : Next ι H ι1 H1) : FW G E ι1 H1 r R :=
  Res.W.mono p (fun s h q ι2 H2 J n2 s2 f => q ι2 H2 J (n.trans n2) s2 f) (fun x h q ι2 H2 n2 s2 => q ι2 H2 (n.trans n2) s2)
theorem FW.bind {α β : Type} {rel : Hp → List Addr → α → β → Prop} {r : Res α} {k : α → Hs → Res Src} {ι : List Addr} {H : Hp} {R : It → Hp → Prop} {Q : β → Hp → Prop} (p : FW G E ι H (r.bind k) R)
    (f : ∀ a h1 ι1 H1 v1, Next ι H ι1 H1 → SimH G ι1 h1 H1 → rel H1 ι1 a v1 → FW G E ι1 H1 (k a h1) R → Q v1 H1) : Post G rel ι H r Q E := by
  cases r with
  | ok a h1 =>
    intro ι1 H1 v1 n s d
    refine f a h1 ι1 H1 v1 n s d ?_
    have h' : FW G E ι H (k a h1) R := p
    exact h'.from n
  | err x h1 => exact p
  | stuck => exact p
theorem rangeS_inv {x y : D} {s : Src} (e : rangeS x y = some s) : ∃ a b : Int, x = .int a ∧ y = .int b ∧ (-1073741824 < a ∧ a < 1073741824 ∧ -1073741824 < b ∧ b < 1073741824) ∧ s = .vals (rngV a b) := by
  unfold rangeS at e
  split at e
  · split at e
    · cases e; exact ⟨_, _, rfl, rfl, by assumption, rfl⟩
    · cases e
  · cases e
theorem xIR1 {p : Pos} (hg : Gl X "range") (hm : X.mg "range" = none) (ha : PE X a (rE G E κ ia)) (hs : starEach [a] X.env = [(false, eval a X.env)]) : PI X tg (.Call (.Name "range" p) [a] [] pos) (rI G E κ (.rng1 ia)) :=
  PIm (pi_range1 (tg := tg) hg hm (pa_cons ha pa_nil hs) hs) fun τ H R ⟨ι, σ, h, l, S, SE, p⟩ => by
    have p' : FW G E ι H ((evE κ ia σ h).bind fun x h => lift h (rangeS (.int 0) x)) R := p
    refine ⟨ι, σ, h, l, S, SE, FW.bind p' fun x h1 ι1 H1 v n s d q => ?_⟩
    show ∃ j : Int, [v] = [V.int j] ∧ -(2 ^ 62) ≤ j ∧ j < 2 ^ 62 ∧ R (Itr 0 j.toNat) H1
    cases e : rangeS (.int 0) x with
    | none => rw [e] at q; exact q.elim
    | some sr =>
      rw [e] at q
      obtain ⟨a, b, e1, rfl, hb, rfl⟩ := rangeS_inv e
      cases e1
      rw [d.int_inv]
      refine ⟨b, rfl, by omega, by omega, q ι1 H1 _ .refl s ?_⟩
      have := feeds_rng (G := G) (ι := ι1) (H := H1) (lo := 0) (n := b.toNat)
      unfold rngV
      rw [Int.sub_zero]
      exact this
theorem xIR2 {p : Pos} (hg : Gl X "range") (hm : X.mg "range" = none) (ha : PE X a (rE G E κ ia)) (hb : PE X b (rE G E κ ib)) (hs : starEach [a, b] X.env = [(false, eval a X.env), (false, eval b X.env)]) (hs2 : starEach [b] X.env = [(false, eval b X.env)]) : PI X tg (.Call (.Name "range" p) [a, b] [] pos) (rI G E κ (.rng2 ia ib)) :=
  PIm (pi_range2 (tg := tg) hg hm (pa_cons ha (pa_cons hb pa_nil hs2) (by rw [hs, hs2])) hs hs2) fun τ H R ⟨ι, σ, h, l, S, SE, p⟩ => by
    have p' : FW G E ι H ((evE κ ia σ h).bind fun x h => (evE κ ib σ h).bind fun y h => lift h (rangeS x y)) R := p
    refine ⟨ι, σ, h, l, S, SE, FW.bind p' fun x h1 ι1 H1 v n s d q => ⟨ι1, σ, h1, l, s, SE.next n, FW.bind q fun y h2 ι2 H2 w n2 s2 d2 q2 => ?_⟩⟩
    show ∃ i j : Int, [v, w] = [V.int i, V.int j] ∧ (-(2 ^ 62) ≤ i ∧ i < 2 ^ 62 ∧ -(2 ^ 62) ≤ j ∧ j < 2 ^ 62) ∧ R (Itr i (j - i).toNat) H2
    cases e : rangeS x y with
    | none => rw [e] at q2; exact q2.elim
    | some sr =>
      rw [e] at q2
      obtain ⟨a, b, rfl, rfl, hb, rfl⟩ := rangeS_inv e
      rw [(DV.next n2 _ _ d).int_inv, d2.int_inv]
      exact ⟨a, b, rfl, by omega, q2 ι2 H2 _ .refl s2 feeds_rng⟩
/-! ### targets -/
/-- a store's wish -/
abbrev TW (G : Gm) (E : XW) (ι : List Addr) (H : Hp) (τ : L2.St) (sl : List Nat) (r : Res Env) (Q : L2.St → Hp → Prop) : Prop :=
  r.W (fun σ' h' => ∀ ι' H' τ', Next ι H ι' H' → SimH G ι' h' H' → σ'.length = τ'.length → SimE G ι' H' σ' τ' → (∀ i, i ∉ sl → τ'[i]? = τ[i]?) → Q τ' H') (fun x h' => ∀ ι' H', Next ι H ι' H' → SimH G ι' h' H' → E x ι' h' H')
def rT (G : Gm) (E : XW) (κ : Orc) (t : IT) : TG := fun v τ H Q => ∃ ι σ h d, σ.length = τ.length ∧ SimH G ι h H ∧ SimE G ι H σ τ ∧ DV G H ι d v ∧ TW G E ι H τ (slots t) (evT κ t d σ h) Q
def rTs (G : Gm) (E : XW) (κ : Orc) (ts : ITs) : TGs := fun vs τ H Q => ∃ ι σ h ds, σ.length = τ.length ∧ SimH G ι h H ∧ SimE G ι H σ τ ∧ DVs G H ι ds vs ∧ TW G E ι H τ (slotss ts) (evTs κ ts ds σ h) Q
theorem PGm {t t' : TG} (h : PG X tg t) (m : ∀ v σ H Q, t' v σ H Q → t v σ H Q) : PG X tg t' := ⟨fun pins s σ H v u Q I r q => h.run pins s σ H v u Q I r (m v σ H Q q)⟩
theorem PGsm {ts : List Expr} {t t' : TGs} (h : PGs X ts t) (m : ∀ v σ H Q, t' v σ H Q → t v σ H Q) : PGs X ts t' := ⟨fun pins s σ H v u Q I r q => h.run pins s σ H v u Q I r (m v σ H Q q)⟩
theorem gNm {i : Nat} {x : Str} (hN : X.N.Nodup) (hi : X.N[i]? = some x) (hx : Loc X.env.scope x) (hf : X.fn x = true ∨ X.env.scope.names.lookup x = some .local) : PG X (.Name x pos) (rT G E κ (.nm i)) :=
  PGm (pg_name hN hi hx hf) fun v τ H Q ⟨ι, σ, h, d, l, S, SE, dv, p⟩ => by
    have p' : TW G E ι H τ [i] (.ok (σ.set i (some d)) h) Q := p
    refine p' ι H _ .refl S (by simp [l]) (SE.set l dv) fun j hj => ?_
    rw [List.getElem?_set_ne (fun e => hj (by rw [e]; exact List.mem_cons_self))]
theorem gsNil : PGs X [] (rTs G E κ .nil) := PGsm pgs_nil fun vs τ H Q ⟨ι, σ, h, ds, l, S, SE, dv, p⟩ => by
  cases ds with
  | nil =>
    have p' : TW G E ι H τ [] (.ok σ h) Q := p
    exact ⟨dv.nil_inv, p' ι H τ .refl S l SE fun _ _ => rfl⟩
  | cons d ds => exact p.elim
theorem TW.bind {ι : List Addr} {H : Hp} {τ : L2.St} {sl sl2 : List Nat} {r : Res Env} {k : Env → Hs → Res Env} {Q Q1 : L2.St → Hp → Prop} (p : TW G E ι H τ (sl ++ sl2) (r.bind k) Q)
    (f : ∀ σ1 h1 ι1 H1 τ1, Next ι H ι1 H1 → SimH G ι1 h1 H1 → σ1.length = τ1.length → SimE G ι1 H1 σ1 τ1 → TW G E ι1 H1 τ1 sl2 (k σ1 h1) Q → Q1 τ1 H1) : TW G E ι H τ sl r Q1 := by
  cases r with
  | ok σ1 h1 =>
    intro ι1 H1 τ1 n s l se sm
    refine f σ1 h1 ι1 H1 τ1 n s l se ?_
    have h' : TW G E ι H τ (sl ++ sl2) (k σ1 h1) Q := p
    exact Res.W.mono h' (fun σ2 h2 q ι2 H2 τ2 n2 s2 l2 se2 sm2 => q ι2 H2 τ2 (n.trans n2) s2 l2 se2 fun i hi => (sm2 i fun z => hi (List.mem_append_right _ z)).trans (sm i fun z => hi (List.mem_append_left _ z))) (fun x h2 q ι2 H2 n2 s2 => q ι2 H2 (n.trans n2) s2)
  | err x h1 => exact p
  | stuck => exact p
theorem gsCons {t : IT} {ts : ITs} {e : Expr} {es : List Expr} (h1 : PG X e (rT G E κ t)) (h2 : PGs X es (rTs G E κ ts)) (hs : (assignEach (e :: es) X.env).map (·.2) = assign e X.env :: (assignEach es X.env).map (·.2)) : PGs X (e :: es) (rTs G E κ (.cons t ts)) :=
  PGsm (pgs_cons h1 h2 hs) fun vs τ H Q ⟨ι, σ, h, ds, l, S, SE, dv, p⟩ => by
    cases ds with
    | nil => exact p.elim
    | cons d ds =>
      obtain ⟨v, r, rfl, dd, dr⟩ := dv.cons_inv
      have p' : TW G E ι H τ (slots t ++ slotss ts) ((evT κ t d σ h).bind fun σ h => evTs κ ts ds σ h) Q := p
      exact ⟨v, r, rfl, ι, σ, h, d, l, S, SE, dd, TW.bind p' fun σ1 h1 ι1 H1 τ1 n s l1 se q => ⟨ι1, σ1, h1, ds, l1, s, se, DVs.next n _ _ dr, q⟩⟩
theorem gTp {ts : ITs} {es : List Expr} {k : Nat} (hK : X.K = G.K) (hc : X.calm = true) (h : PGs X es (rTs G E κ ts)) (hn : (assignEach es X.env).length = tsLen ts) (hst : (assignEach es X.env).findIdx? (·.1) = none) : PG X (.Tuple es k pos) (rT G E κ (.tp ts)) :=
  PGm (pg_tup hc h hn hst) fun v τ H Q ⟨ι, σ, h, d, l, S, SE, dv, p⟩ => by
    cases d with
    | tup ds =>
      obtain ⟨a, vs, rfl, t, _, q⟩ := dv.tup_inv
      have p' : TW G E ι H τ (slotss ts) (if ds.length = tsLen ts then evTs κ ts ds σ h else .stuck) Q := p
      split at p'
      · rename_i hl
        exact ⟨a, vs, rfl, by rw [hK]; exact t, by rw [← q.length]; exact hl, ι, σ, h, ds, l, S, SE, q, p'⟩
      · exact p'.elim
    | _ => exact p.elim
theorem gSb (hu : X.A.units + 1 < cLine) (ha : PE X a (rE G E κ ia)) (hb : PE X b (rE G E κ ib))
    (hs : ∀ v, assign (.Subscript a b pos) X.env v = (do
      let ov ← holding [v] (eval a X.env)
      let iv ← holding [v, ov] (eval b X.env)
      standAt pos
      holding [v, ov, iv] (setItem ov iv v)
      release [v, ov, iv] [])) : PG X (.Subscript a b pos) (rT G E κ (.sub ia ib)) :=
  PGm (pg_sub ha hb (set_D (G := G) hu) hs) fun v τ H Q ⟨ι, σ, h, d, l, S, SE, dv, p⟩ => by
    have p' : TW G E ι H τ [] ((evE κ ia σ h).bind fun x h => (evE κ ib σ h).bind fun y h => match store x y d h with
      | some h => .ok σ h
      | none => .stuck) Q := p
    have tw : ∀ {r : Res D} {k : D → Hs → Res Env} {ι : List Addr} {H : Hp} {Q1 : VK}, TW G E ι H τ [] (r.bind k) Q → (∀ x h1 ι1 H1 v1, Next ι H ι1 H1 → SimH G ι1 h1 H1 → DV G H1 ι1 x v1 → TW G E ι1 H1 τ [] (k x h1) Q → Q1 v1 H1) → PostD G ι H r Q1 E := fun {r k ι H Q1} p f => by
      cases r with
      | ok x h1 =>
        intro ι1 H1 v1 n s d
        refine f x h1 ι1 H1 v1 n s d ?_
        have h' : TW G E ι H τ [] (k x h1) Q := p
        exact Res.W.mono h' (fun σ2 h2 q ι2 H2 τ2 n2 s2 l2 se2 sm2 => q ι2 H2 τ2 (n.trans n2) s2 l2 se2 sm2) (fun x h2 q ι2 H2 n2 s2 => q ι2 H2 (n.trans n2) s2)
      | err x h1 => exact p
      | stuck => exact p.elim
    refine ⟨ι, σ, h, l, S, SE, tw p' fun x h1 ι1 H1 u n s dx q => ⟨ι1, σ, h1, l, s, SE.next n, tw q fun y h2 ι2 H2 w n2 s2 dy q2 => ?_⟩⟩
    split at q2
    · rename_i h3 e
      exact ⟨ι2, x, y, d, h2, h3, s2, DV.next n2 _ _ dx, dy, DV.next (n.trans n2) _ _ dv, e, fun H' n3 s3 => q2 ι2 H' τ n3 s3 l (SE.next ((n.trans n2).trans n3)) fun _ _ => rfl⟩
    · exact q2.elim
/-! ### comprehensions -/
theorem wipeE_len (σ : Env) : ∀ vs, (wipeE σ vs).length = σ.length
  | [] => rfl
  | v :: vs => by simp [wipeE, wipeE_len σ vs]
theorem wipe_sim {ι : List Addr} {H : Hp} {σ : Env} {τ : L2.St} (l : σ.length = τ.length) (s : SimE G ι H σ τ) : ∀ vs, SimE G ι H (wipeE σ vs) (wipe τ vs)
  | [] => s
  | v :: vs => fun i d e => by
    have ih := wipe_sim l s vs
    have e' : ((wipeE σ vs).set v none)[i]? = some (some d) := e
    by_cases hv : v = i
    · subst hv
      by_cases hl : v < (wipeE σ vs).length
      · rw [List.getElem?_set_self hl] at e'; cases e'
      · rw [List.getElem?_eq_none (by simpa using hl)] at e'; cases e'
    · rw [List.getElem?_set_ne hv] at e'
      obtain ⟨w, h1, h2⟩ := ih i d e'
      exact ⟨w, by show ((wipe τ vs).set v none)[i]? = _; rw [List.getElem?_set_ne hv]; exact h1, h2⟩
theorem wipe_get (τ : L2.St) : ∀ (vs : List Nat) (i : Nat), (wipe τ vs)[i]? = if i ∈ vs ∧ i < τ.length then some none else τ[i]?
  | [], i => by simp [wipe]
  | v :: vs, i => by
    show ((wipe τ vs).set v none)[i]? = _
    by_cases hv : v = i
    · subst hv
      by_cases hl : v < τ.length
      · rw [List.getElem?_set_self (by rw [wipe_length]; exact hl), if_pos ⟨List.mem_cons_self, hl⟩]
      · rw [List.getElem?_eq_none (by simp [wipe_length]; omega), if_neg (fun z => hl z.2), List.getElem?_eq_none (by omega)]
    · rw [List.getElem?_set_ne hv, wipe_get τ vs i]
      by_cases hm : i ∈ vs
      · simp [hm]
      · have : ¬ (i ∈ v :: vs) := by
          intro z
          rcases List.mem_cons.mp z with z | z
          · exact hv z.symm
          · exact hm z
        simp [hm, this]
theorem wipe_same {τ τ' : L2.St} {own sl : List Nat} (hl : τ'.length = τ.length) (hs : ∀ i ∈ sl, i ∈ own) (h : ∀ i, i ∉ sl → τ'[i]? = (wipe τ own)[i]?) : wipe τ' own = wipe τ own := by
  apply List.ext_getElem?
  intro i
  rw [wipe_get]
  by_cases hi : i ∈ own
  · by_cases hlt : i < τ.length
    · rw [if_pos ⟨hi, by omega⟩, wipe_get, if_pos ⟨hi, hlt⟩]
    · rw [if_neg (fun z => hlt (by omega)), List.getElem?_eq_none (by omega), List.getElem?_eq_none (by rw [wipe_length]; omega)]
  · rw [if_neg (fun z => hi z.1), h i (fun z => hi (hs i z))]
/-- a comprehension's tests -/
abbrev rC (G : Gm) (E : XW) (κ : Orc) (cs : IEs) : TT := Rdg G E relB (evC κ cs)
theorem PTsm {ifs : List Expr} {t t' : TT} (h : PTs X ifs t) (m : ∀ σ H Q, t' σ H Q → t σ H Q) : PTs X ifs t' := ⟨fun pins s σ H Q I q => h.run pins s σ H Q I (m σ H Q q)⟩
theorem cNil : PTs X [] (rC G E κ .nil) := PTsm pts_nil fun σ H Q ⟨ι, σ', h, l, S, SE, p⟩ => p.ok S rfl
theorem evC_one (σ : Env) (h : Hs) : evC κ (.cons ia .nil) σ h = evB κ ia σ h := by
  show (evE κ ia σ h).bind _ = (evE κ ia σ h).bind _
  cases evE κ ia σ h with
  | ok x h1 =>
    show (match truth h1 x with
      | some true => Res.ok true h1
      | some false => .ok false h1
      | none => .stuck) = lift h1 (truth h1 x)
    cases e : truth h1 x with
    | none => rfl
    | some k => cases k <;> rfl
  | err x h1 => rfl
  | stuck => rfl
theorem cOne (ha : PT X a (rB G E κ ia)) : PTs X [a] (rC G E κ (.cons ia .nil)) := PTsm (pts_one ha) fun σ H Q r => Rdg.eq (fun σ h => evC_one σ h) r
end
end MI
end

section
set_option Elab.async false
set_option linter.all false
set_option maxRecDepth 100000
set_option maxHeartbeats 1000000
/-! MI10: list comprehensions, methods, isinstance, dict displays. -/
namespace MI
open PySem PySem.Spec PyProof.Rows L2
/-- no exception -/
abbrev NoE : XW := fun _ _ _ _ => False
section
variable {G : Gm} {κ : Orc} {X : Cx} {a b c : Expr} {ia ib ic : IE} {pos : Pos} {tg : Expr}
theorem SimH.fresh {ι : List Addr} {H : Hp} {h : Hs} (s : SimH G ι h H) {p : Addr} (hp : H p = none) : p ∉ ι := fun hm => by
  obtain ⟨n, hn⟩ := List.getElem?_of_mem hm
  have hl : n < h.length := by rw [s.len]; exact (List.getElem?_eq_some_iff.mp hn).1
  obtain ⟨u, hu⟩ := (s.at_ n _ p (List.getElem?_eq_getElem hl) hn).some
  rw [hp] at hu; cases hu
/-- a tracked list of nobody's becomes ours -/
theorem SimH.adopt {ι : List Addr} {H : Hp} {h : Hs} (s : SimH G ι h H) {p : Addr} {ds : List D} {vs : List V} (hp : H p = some (.lst vs)) (hm : p ∉ ι) (l : ds.length ≤ L) (q : DVs G H ι ds vs) : SimH G (ι ++ [p]) (h ++ [.lst ds]) H := by
  refine ⟨by simp [s.len], fun n w a e1 e2 => ?_, fun n k a e1 e2 => ?_⟩
  · rcases snoc_get e1 with e1 | ⟨rfl, rfl⟩
    · have hn : n < h.length := (List.getElem?_eq_some_iff.mp e1).1
      rw [List.getElem?_append_left (by rw [← s.len]; exact hn)] at e2
      exact MOR.nextG .refl ⟨[p], rfl⟩ (fun _ h => h) (s.at_ n w a e1 e2)
    · rw [s.len, List.getElem?_concat_length] at e2
      cases e2
      exact ⟨vs, hp, l, q.next' .refl ⟨[p], rfl⟩⟩
  · rcases snoc_get e1 with e1 | ⟨r1, z1⟩
    · rcases snoc_get e2 with e2 | ⟨r2, z2⟩
      · exact s.nd n k a e1 e2
      · exact absurd (by rw [← z2]; exact List.mem_of_getElem? e1) hm
    · rcases snoc_get e2 with e2 | ⟨r2, z2⟩
      · exact absurd (by rw [← z1]; exact List.mem_of_getElem? e2) hm
      · exact r1.trans r2.symm
theorem Post.from {α β : Type} {rel : Hp → List Addr → α → β → Prop} {E : XW} {r : Res α} {ι ι1 : List Addr} {H H1 : Hp} {Q : β → Hp → Prop} (p : Post G rel ι H r Q E) (n : Next ι H ι1 H1) : Post G rel ι1 H1 r Q E :=
  Res.W.mono p (fun s h q ι2 H2 J n2 s2 f => q ι2 H2 J (n.trans n2) s2 f) (fun x h q ι2 H2 n2 s2 => q ι2 H2 (n.trans n2) s2)
mutual
theorem evT_len : ∀ {t : IT} {d : D} {σ σ' : Env} {h h' : Hs}, evT κ t d σ h = .ok σ' h' → σ'.length = σ.length
  | .nm i, d, σ, σ', h, h', e => by
    have e' : Res.ok (σ.set i (some d)) h = .ok σ' h' := e
    cases e'
    simp
  | .tp ts, d, σ, σ', h, h', e => by
    cases d with
    | tup ds =>
      have e' : (if ds.length = tsLen ts then evTs κ ts ds σ h else .stuck) = .ok σ' h' := e
      split at e'
      · exact evTs_len e'
      · cases e'
    | _ => cases e
  | .sub o i, d, σ, σ', h, h', e => by
    have e' : ((evE κ o σ h).bind fun x h => (evE κ i σ h).bind fun y h => match store x y d h with
      | some h => .ok σ h
      | none => .stuck) = Res.ok σ' h' := e
    cases e1 : evE κ o σ h with
    | ok x h1 =>
      rw [e1] at e'
      have e2 : ((evE κ i σ h1).bind fun y h => match store x y d h with
        | some h => .ok σ h
        | none => .stuck) = Res.ok σ' h' := e'
      cases e3 : evE κ i σ h1 with
      | ok y h2 =>
        rw [e3] at e2
        have e4 : (match store x y d h2 with
          | some h => Res.ok σ h
          | none => .stuck) = .ok σ' h' := e2
        split at e4
        · cases e4; rfl
        · cases e4
      | err y h2 => rw [e3] at e2; cases e2
      | stuck => rw [e3] at e2; cases e2
    | err x h1 => rw [e1] at e'; cases e'
    | stuck => rw [e1] at e'; cases e'
theorem evTs_len : ∀ {ts : ITs} {ds : List D} {σ σ' : Env} {h h' : Hs}, evTs κ ts ds σ h = .ok σ' h' → σ'.length = σ.length
  | .nil, [], σ, σ', h, h', e => by
    have e' : Res.ok σ h = .ok σ' h' := e
    cases e'
    rfl
  | .nil, d :: ds, σ, σ', h, h', e => by cases e
  | .cons t ts, [], σ, σ', h, h', e => by cases e
  | .cons t ts, d :: ds, σ, σ', h, h', e => by
    have e' : ((evT κ t d σ h).bind fun σ h => evTs κ ts ds σ h) = .ok σ' h' := e
    cases e1 : evT κ t d σ h with
    | ok σ1 h1 =>
      rw [e1] at e'
      have e2 : evTs κ ts ds σ1 h1 = .ok σ' h' := e'
      exact (evTs_len e2).trans (evT_len e1)
    | err x h1 => rw [e1] at e'; cases e'
    | stuck => rw [e1] at e'; cases e'
end
theorem xLcN {ow : List (Str × Nat)} {elt iter : Expr} {ifs : List Expr} {scope : Scope} {ie : IE} {it : II} {t : IT} {cs : IEs} (hc : X.calm = true) (hN : X.N.Nodup) (ok : BlkOk X.N X.env.scope scope ow) (hsl : ∀ i ∈ slots t, i ∈ ow.map (·.2))
    (hg : ∀ (s : Shared) (H : Hp) (C : Addr) (cl : List (Str × Addr)) (fp : List Addr), PG (X.blk s H scope (compEnvC scope cl C X.env) fp) tg (rT G NoE κ t)) (ht : ∀ (s : Shared) (H : Hp) (C : Addr) (cl : List (Str × Addr)) (fp : List Addr), PTs (X.blk s H scope (compEnvC scope cl C X.env) fp) ifs (rC G NoE κ cs))
    (he : ∀ (s : Shared) (H : Hp) (C : Addr) (cl : List (Str × Addr)) (fp : List Addr), PE (X.blk s H scope (compEnvC scope cl C X.env) fp) elt (rE G NoE κ ie)) {τ : L2.St} {H : Hp} {Q : VK} (r : rE G NoE κ (.lc (ow.map (·.2)) ie t it cs) τ H Q) :
    tLc (rI G NoE κ it) (rT G NoE κ t) (rC G NoE κ cs) (rE G NoE κ ie) (ow.map (·.2)) τ H Q := by
  obtain ⟨ι, σ, h, l, S, SE, p⟩ := r
  generalize how : ow.map (·.2) = own at *
  refine ⟨ι, σ, h, l, S, SE, ?_⟩
  generalize hf : (fun (d : D) (h : Hs) => (evT κ t d (wipeE σ own) h).bind fun σ h => (evC κ cs σ h).bind fun b h => if b then (evE κ ie σ h).bind fun x h => Res.ok (some x) h else .ok none h) = f
  have p' : PostD G ι H ((evI κ it σ h).bind fun s h => (lcS f s h).bind fun ds h => new (.lst ds) h) Q NoE := by rw [← hf]; exact p
  cases ev : evI κ it σ h with
  | err x h1 => rw [ev] at p'; exact p'
  | stuck => rw [ev] at p'; exact p'.elim
  | ok sr h1 =>
    rw [ev] at p'
    intro ι1 H1 J n1 S1 fd D hD
    have p1 : PostD G ι1 H1 ((lcS f sr h1).bind fun ds h => new (.lst ds) h) Q NoE := Post.from p' n1
    let Wp : Nat → Nat → Hp → Prop := fun i m Hc => ∃ ι2 h2 acc accV, Next ι1 H1 ι2 Hc ∧ SimH G ι2 h2 Hc ∧ D ∉ ι2 ∧ Hc D = some (.lst accV) ∧ acc.length ≤ L ∧ DVs G Hc ι2 acc accV ∧ PostD G ι1 H1 ((lcL f sr m i acc h2).bind fun ds h => new (.lst ds) h) Q NoE
    refine ⟨Wp, ⟨srcLen sr h1, ι1, h1, [], [], .extra hD, S1.extra hD, S1.fresh hD, upd_same, by simp, .nil, p1⟩, ?_⟩
    rintro i m Hc ⟨ι2, h2, acc, accV, n2, S2, dn, hd, hl, dv, p2⟩
    cases m with
    | zero =>
      left
      simp only [lcL] at p2
      split at p2
      · rename_i hend
        refine ⟨fd.stop ι2 h2 Hc i n2 S2 hend, ?_⟩
        have p3 : PostD G ι1 H1 (.ok (.ref h2.length) (h2 ++ [.lst acc])) Q NoE := p2
        refine p3.at_ ⟨?_, n2.grow, n2.keep, n2.oth⟩ (S2.adopt hd dn hl dv) (.ref ?_)
        · obtain ⟨u, e, fu⟩ := n2.ext
          refine ⟨u ++ [D], by rw [e]; simp, fun q hq => ?_⟩
          rcases List.mem_append.mp hq with hq | hq
          · exact fu q hq
          · rw [List.mem_singleton.mp hq]; exact hD
        · rw [S2.len, List.getElem?_concat_length]
      · exact p2.elim
    | succ k =>
      right
      simp only [lcL] at p2
      cases ed : srcAt sr h2 i with
      | none => rw [ed] at p2; exact p2.elim
      | some d =>
        rw [ed] at p2
        obtain ⟨hgo, hy⟩ := fd.go ι2 h2 Hc i d n2 S2 ed
        refine ⟨hgo, Wp (i + 1) k, fun H' w => ⟨k, Nat.lt_succ_self k, w⟩, fun x H' y => ?_⟩
        obtain ⟨rfl, dx⟩ := hy x H' y
        have lw : (wipeE σ own).length = (wipe τ own).length := by rw [wipeE_len, wipe_length]; exact l
        refine ⟨ι2, wipeE σ own, h2, d, lw, S2, wipe_sim l (SE.next (n1.trans n2)) own, dx, ?_⟩
        have fe : f d h2 = (evT κ t d (wipeE σ own) h2).bind fun σ h => (evC κ cs σ h).bind fun b h => if b then (evE κ ie σ h).bind fun x h => Res.ok (some x) h else .ok none h := by rw [← hf]
        replace p2 : PostD G ι1 H1 (((f d h2).bind fun r h => match r with
          | some e => if acc.length < L then lcL f sr k (i + 1) (acc ++ [e]) h else .stuck
          | none => lcL f sr k (i + 1) acc h).bind fun ds h => new (.lst ds) h) Q NoE := p2
        rw [fe] at p2
        cases et : evT κ t d (wipeE σ own) h2 with
        | err x h3 => rw [et] at p2; exact fun ι' H' n s => p2 ι' H' (n2.trans n) s
        | stuck => rw [et] at p2; exact p2.elim
        | ok σ3 h3 =>
          rw [et] at p2
          intro ι3 H3 τ3 n3 S3 l3 se3 sm
          have hlen : τ3.length = τ.length := by
            have hsz : σ3.length = (wipeE σ own).length := evT_len et
            rw [← l3, hsz, wipeE_len]; exact l
          refine ⟨wipe_same hlen hsl sm, ι3, σ3, h3, l3, S3, se3, ?_⟩
          cases ec : evC κ cs σ3 h3 with
          | err x h4 =>
            have p3 : PostD G ι1 H1 ((((evC κ cs σ3 h3).bind fun b h => if b then (evE κ ie σ3 h).bind fun x h => Res.ok (some x) h else .ok none h).bind _).bind _) Q NoE := p2
            rw [ec] at p3; exact fun ι' H' n s => p3 ι' H' ((n2.trans n3).trans n) s
          | stuck =>
            have p3 : PostD G ι1 H1 ((((evC κ cs σ3 h3).bind fun b h => if b then (evE κ ie σ3 h).bind fun x h => Res.ok (some x) h else .ok none h).bind _).bind _) Q NoE := p2
            rw [ec] at p3; exact p3.elim
          | ok b h4 =>
            have p3 : PostD G ι1 H1 ((((evC κ cs σ3 h3).bind fun b h => if b then (evE κ ie σ3 h).bind fun x h => Res.ok (some x) h else .ok none h).bind _).bind _) Q NoE := p2
            rw [ec] at p3
            intro ι4 H4 b' n4 S4 eb
            have eb' : b = b' := eb
            subst eb'
            have o4 := ((n3.trans n4).out hd dn)
            cases b with
            | false =>
              rw [if_neg (by decide)]
              exact ⟨ι4, h4, acc, accV, n2.trans (n3.trans n4), S4, o4.2, o4.1, hl, dv.next (n3.trans n4), p3⟩
            | true =>
              rw [if_pos rfl]
              refine ⟨ι4, σ3, h4, l3, S4, se3.next n4, ?_⟩
              have p4 : PostD G ι1 H1 (((((evE κ ie σ3 h4).bind fun x h => Res.ok (some x) h)).bind fun r h => match r with
                | some e => if acc.length < L then lcL f sr k (i + 1) (acc ++ [e]) h else .stuck
                | none => lcL f sr k (i + 1) acc h).bind fun ds h => new (.lst ds) h) Q NoE := p3
              cases ee : evE κ ie σ3 h4 with
              | err x h5 => rw [ee] at p4; exact fun ι' H' n s => p4 ι' H' ((n2.trans (n3.trans n4)).trans n) s
              | stuck => rw [ee] at p4; exact p4.elim
              | ok e h5 =>
                rw [ee] at p4
                have p5 : PostD G ι1 H1 ((if acc.length < L then lcL f sr k (i + 1) (acc ++ [e]) h5 else Res.stuck).bind fun ds h => new (.lst ds) h) Q NoE := p4
                intro ι5 H5 v5 n5 S5 d5
                have n25 := (n3.trans n4).trans n5
                obtain ⟨o5, o5'⟩ := n25.out hd dn
                split at p5
                · rename_i hlt
                  refine ⟨accV, o5, by rw [← dv.length, sizeLine_eq]; exact hlt, ι5, h5, acc ++ [e], accV ++ [v5], (n2.trans n25).poke hD o5, S5.poke o5 o5', o5', upd_same, by simp; omega, ?_, p5⟩
                  exact ((dv.next n25).append (.cons d5 .nil)).next' (.lst o5) ⟨[], by simp⟩
                · exact p5.elim
/-! ### methods of built-ins -/
theorem xLc {ow : List (Str × Nat)} {elt iter : Expr} {ifs : List Expr} {scope : Scope} {ie : IE} {it : II} {t : IT} {cs : IEs} (hc : X.calm = true) (hN : X.N.Nodup) (hi : PI X tg iter (rI G NoE κ it)) (ok : BlkOk X.N X.env.scope scope ow) (hsl : ∀ i ∈ slots t, i ∈ ow.map (·.2))
    (hg : ∀ (s : Shared) (H : Hp) (C : Addr) (cl : List (Str × Addr)) (fp : List Addr), PG (X.blk s H scope (compEnvC scope cl C X.env) fp) tg (rT G NoE κ t)) (ht : ∀ (s : Shared) (H : Hp) (C : Addr) (cl : List (Str × Addr)) (fp : List Addr), PTs (X.blk s H scope (compEnvC scope cl C X.env) fp) ifs (rC G NoE κ cs))
    (he : ∀ (s : Shared) (H : Hp) (C : Addr) (cl : List (Str × Addr)) (fp : List Addr), PE (X.blk s H scope (compEnvC scope cl C X.env) fp) elt (rE G NoE κ ie)) {τ : L2.St} {H : Hp} {Q : VK} (r : rE G NoE κ (.lc (ow.map (·.2)) ie t it cs) τ H Q) :
    tLc (rI G NoE κ it) (rT G NoE κ t) (rC G NoE κ cs) (rE G NoE κ ie) (ow.map (·.2)) τ H Q := xLcN (iter := iter) hc hN ok hsl hg ht he r
theorem tyV_of (hK : X.K = G.K) {ι : List Addr} {H : Hp} {h : Hs} {x : D} {v : V} {t : MI.Ty} (S : SimH G ι h H) (dv : DV G H ι x v) (e : tyOf h x = some t) (ht : t = .str ∨ t = .list) : tyV X.K (tyName t) v H := by
  rcases ht with rfl | rfl
  · cases x with
    | str z => rw [dv.str_inv.1]; rfl
    | ref n => simp only [tyOf] at e; split at e <;> cases e
    | _ => cases e
  · cases x with
    | ref n =>
      obtain ⟨a, rfl, ia⟩ := dv.ref_inv
      simp only [tyOf] at e
      split at e
      · rename_i ds hd
        obtain ⟨vs, t, _⟩ := S.lst hd ia
        exact .inl ⟨rfl, vs, .inl (.inl t)⟩
      · cases e
      · cases e
    | lst ds =>
      obtain ⟨a, vs, rfl, t, _⟩ := dv.lst_inv
      exact .inl ⟨rfl, vs, by rw [hK]; exact t⟩
    | _ => cases e
theorem mtTy_ok (m : MT) : mtTy m = .str ∨ mtTy m = .list := by cases m <;> simp [mtTy]
theorem xMt {E : XW} {m : MT} {o e : Expr} {es : List Expr} {io : IE} {ies : IEs} {name : Str} {apos cpos : Pos} {id : String} {f : D → List D → Hs → Res D} (hK : X.K = G.K) (hf : ∀ x ds h, method m x ds h = f x ds h) (pa : PlainAttrs (tyName (mtTy m))) (slot : Slot (tyName (mtTy m)) name id) (hty : typeOf (.builtin id) = pure (.type "method_descriptor")) (hm : MtR X id (rMD G E f)) (ho : PE X o (rE G E κ io)) (ha : PA X (e :: es) (rEs G E κ ies))
    (hbase : attributeBase o name X.env (eval o X.env) = eval o X.env)
    (hfew : ((backTo cpos (starEach (e :: es) X.env)).all (fun x => !x.1) && (backToKw cpos (keywordEach [] X.env)).all (fun x => x.1.isSome)
      && decide ((e :: es).length + ([] : List Keyword).length + (if ([] : List Keyword).isEmpty then 0 else 1) < 30)) = true)
    (hline : (apos.endLine == cpos.line) = true) (hs : starEach (e :: es) X.env = (false, eval e X.env) :: starEach es X.env) (hplain : (backTo cpos (starEach es X.env)).any (·.1) = false) :
    PE X (.Call (.Attribute o name apos) (e :: es) [] cpos) (rE G E κ (.mt m io ies)) :=
  PEm (pe_bm pa slot hty hm ho ha hbase hfew hline hs hplain) fun σ H Q r => by
    refine Rdg.seq (k := fun σ x h => if recv m x h then (evEs κ ies σ h).bind fun ds h => method m x ds h else .stuck) r fun ι1 σ1 x h1 H1 v l S SE dv p => ?_
    split at p
    · rename_i hr
      refine ⟨tyV_of hK S dv (of_decide_eq_true hr) (mtTy_ok m), ι1, σ1, h1, l, S, SE, Post.seq p fun ds h2 ι2 H2 vs n s d p2 => ?_⟩
      rw [hf] at p2
      exact ⟨ι2, x, ds, h2, s, DV.next n _ _ dv, d, p2⟩
    · exact p.elim
theorem xMt0 {E : XW} {m : MT} {o : Expr} {io : IE} {name : Str} {apos cpos : Pos} {id : String} {f : D → List D → Hs → Res D} (hK : X.K = G.K) (hf : ∀ x ds h, method m x ds h = f x ds h) (pa : PlainAttrs (tyName (mtTy m))) (slot : Slot (tyName (mtTy m)) name id) (hty : typeOf (.builtin id) = pure (.type "method_descriptor")) (hm : MtR X id (rMD G E f)) (ho : PE X o (rE G E κ io))
    (hbase : attributeBase o name X.env (eval o X.env) = eval o X.env) (hline : (apos.endLine == cpos.line) = true) : PE X (.Call (.Attribute o name apos) [] [] cpos) (rE G E κ (.mt m io .nil)) :=
  PEm (pe_bm0 pa slot hty hm ho hbase hline) fun σ H Q r => by
    refine Rdg.seq (k := fun σ x h => if recv m x h then (evEs κ .nil σ h).bind fun ds h => method m x ds h else .stuck) r fun ι1 σ1 x h1 H1 v l S SE dv p => ?_
    split at p
    · rename_i hr
      replace p : PostD G ι1 H1 (method m x [] h1) Q E := p
      rw [hf] at p
      exact ⟨tyV_of hK S dv (of_decide_eq_true hr) (mtTy_ok m), ι1, x, [], h1, S, dv, .nil, p⟩
    · exact p.elim
/-! ### isinstance -/
def tyNames : List MI.Ty → List V := List.map fun t => V.ty (tyName t)
theorem clsV_tys : ∀ ts : List MI.Ty, Paired ClsV (tyNames ts) (ts.map fun b => Value.type (tyName b))
  | [] => .nil
  | t :: ts => .cons (.ty _) (clsV_tys ts)
theorem ca_isi (hK : X.K = G.K) (ts : List MI.Ty) : CallR X (.builtin "isinstance") (fun vs H Q => ∃ ι x h v b, SimH G ι h H ∧ DV G H ι x v ∧ tyAny h x ts = some b ∧ Q (.bl b) H ∧ ((∃ t, ts = [t] ∧ vs = [v, .ty (tyName t)]) ∨ ∃ a, vs = [v, .ref a] ∧ H a = some (.tup (tyNames ts)))) := by
  intro pins s σ H vs us Q I r ⟨ι, x, h, v, b, S, dv, e, q, k⟩
  obtain ⟨t0, e0, rfl⟩ := Option.map_eq_some_iff.mp e
  have ty := tyOf_ok hK S dv e0
  rcases k with ⟨t, rfl, rfl⟩ | ⟨a, rfl, ha⟩
  · refine call_isi pins s σ H _ us Q I r ⟨v, .ty (tyName t), .type (tyName t0), .type (tyName t), _, rfl, .ty _, ty, kit_ty (kit_all t0 t), ?_⟩
    simpa using q
  · exact call_isiT pins s σ H _ us Q I r ⟨v, a, tyNames ts, .type (tyName t0), _, _, rfl, ha, clsV_tys ts, ty, kitAny_tys t0 ts, q⟩
theorem xIsi1 {E : XW} {p p2 : Pos} {x : Str} {t : MI.Ty} (hK : X.K = G.K) (ha : PE X a (rE G E κ ia)) (hg : Gl X "isinstance") (hm : X.mg "isinstance" = none) (hgt : Gl X x) (hmt : X.mg x = none) (hv : bootBuiltins x = some (.type (tyName t))) (hn : x ≠ "__name__") (hd : (x == ("__debug__" : Str)) = false)
    (he : starEach [a, .Name x p2] X.env = [(false, eval a X.env), (false, eval (.Name x p2) X.env)]) (he2 : starEach [.Name x p2] X.env = [(false, eval (.Name x p2) X.env)]) : PE X (.Call (.Name "isinstance" p) [a, .Name x p2] [] pos) (rE G E κ (.isi ia [t])) :=
  PEm (pe_callB (ca_isi hK [t]) hg hm (by decide +kernel) (pa_cons ha (pa_cons (pe_bltn hgt hmt hv (v := .ty (tyName t)) rfl hn hd) pa_nil he2) (by rw [he, he2])) (by decide) (by decide) (by rw [he, he2]) (by rw [he2]; rfl)) fun σ H Q r => by
    refine Rdg.seq (k := fun _ x h => lift h ((tyAny h x [t]).map D.bl)) r fun ι1 σ1 x h1 H1 v l S SE dv p => ?_
    cases e : tyAny h1 x [t] with
    | none => rw [e] at p; exact p.elim
    | some b => rw [e] at p; exact ⟨ι1, x, h1, v, b, S, dv, e, p.ok S DV.bl, .inl ⟨t, rfl, rfl⟩⟩
def tyOfName (x : Str) : Option MI.Ty :=
  if x = "int" then some .int else if x = "bool" then some .bool else if x = "str" then some .str else if x = "list" then some .list else if x = "tuple" then some .tuple else if x = "dict" then some .dict else none
theorem tyOfName_ok {x : Str} {t : MI.Ty} (h : tyOfName x = some t) : bootBuiltins x = some (.type (tyName t)) ∧ x ≠ "__name__" ∧ (x == ("__debug__" : Str)) = false := by
  unfold tyOfName at h
  repeat' split at h
  all_goals first
    | (cases h; subst_vars; exact ⟨by decide +kernel, by decide, by decide⟩)
    | cases h
/-- names of built-in types -/
inductive TyNs (X : Cx) : List Expr → List MI.Ty → Prop
  | nil : TyNs X [] []
  | cons {x : Str} {p : Pos} {t : MI.Ty} {es : List Expr} {ts : List MI.Ty} (hg : Gl X x) (hm : X.mg x = none) (ht : tyOfName x = some t) (r : TyNs X es ts) : TyNs X (.Name x p :: es) (t :: ts)
theorem starEach_cons {e : Expr} {es : List Expr} {env : PySem.Env} (h : ∀ e' p, e ≠ .Starred e' p) : starEach (e :: es) env = (false, eval e env) :: starEach es env := by
  cases e <;> first | rfl | exact absurd rfl (h _ _)
theorem tyNs_pa {es : List Expr} {ts : List MI.Ty} (h : TyNs X es ts) : PA X es (fun _ H Q => Q (tyNames ts) H) := by
  induction h with
  | nil => exact pa_nil
  | @cons x p t es ts hg hm ht r ih =>
    obtain ⟨h1, h2, h3⟩ := tyOfName_ok ht
    exact PAm (pa_cons (pe_bltn hg hm h1 (v := .ty (tyName t)) rfl h2 h3) ih (starEach_cons fun _ _ z => nomatch z)) fun σ H Q q => q
theorem xIsiT {E : XW} {p p2 : Pos} {k : Nat} {es : List Expr} {ts : List MI.Ty} (hK : X.K = G.K) (ha : PE X a (rE G E κ ia)) (hg : Gl X "isinstance") (hm : X.mg "isinstance" = none) (ht : TyNs X es ts) (hl : ts.length ≤ 100)
    (he : starEach [a, .Tuple es k p2] X.env = [(false, eval a X.env), (false, eval (.Tuple es k p2) X.env)]) : PE X (.Call (.Name "isinstance" p) [a, .Tuple es k p2] [] pos) (rE G E κ (.isi ia ts)) :=
  PEm (pe_callB (ca_isi hK ts) hg hm (by decide +kernel) (pa_cons ha (pa_cons (pe_tup (tyNs_pa ht)) pa_nil rfl) he) (by decide) (by decide) he rfl) fun σ H Q r => by
    refine Rdg.seq (k := fun _ x h => lift h ((tyAny h x ts).map D.bl)) r fun ι1 σ1 x h1 H1 v l S SE dv p => ?_
    cases e : tyAny h1 x ts with
    | none => rw [e] at p; exact p.elim
    | some b =>
      rw [e] at p
      refine ⟨by unfold tyNames; rw [List.length_map, sizeLine_eq]; omega, fun a hA => ⟨ι1, x, h1, v, b, S.extra hA, DV.next (.extra hA) _ _ dv, e, p.at_ (.extra hA) (S.extra hA) DV.bl, .inr ⟨a, rfl, upd_same⟩⟩⟩
/-! ### dict displays -/
def trsOf (G : Gm) (E : XW) (κ : Orc) : IKV → List (TE × TE)
  | .nil => []
  | .cons k v r => (rE G E κ k, rE G E κ v) :: trsOf G E κ r
def kvLen : IKV → Nat
  | .nil => 0
  | .cons _ _ r => kvLen r + 1
theorem pairs_ok {E : XW} {σ : Env} {τ : L2.St} (l : σ.length = τ.length) : ∀ (kvs : IKV) (acc : List (D × D)) (q : List (Key × V)) (ι : List Addr) (H : Hp) (h : Hs) (Q : List (Key × V) → Hp → Prop) (Q1 : List (V × V) → Hp → Prop), SimH G ι h H → SimE G ι H σ τ → KVs G H ι acc q →
    Post G (KVs G) ι H (evKV κ kvs acc σ h) Q E → (∀ more H2, more.length = kvLen kvs → Q (mergeK q more) H2 → Q1 (more.map fun kv => (kV kv.1, kv.2)) H2) → tPairs (trsOf G E κ kvs) τ H Q1
  | .nil, acc, q, ι, H, h, Q, Q1, S, SE, hq, p, f => f [] H rfl (p.ok (a := acc) (h := h) S hq)
  | .cons k v r, acc, q, ι, H, h, Q, Q1, S, SE, hq, p, f => by
    have p' : Post G (KVs G) ι H ((evE κ k σ h).bind fun x h => (evE κ v σ h).bind fun y h => if isKey x then evKV κ r (dput x y acc) σ h else .stuck) Q E := p
    refine ⟨ι, σ, h, l, S, SE, Post.seq p' fun x h1 ι1 H1 u n1 s1 dx p1 => ⟨ι1, σ, h1, l, s1, SE.next n1, Post.seq p1 fun y h2 ι2 H2 w n2 s2 dy p2 => ?_⟩⟩
    split at p2
    · rename_i hk
      obtain ⟨kk, rfl, hkk⟩ := keyOf hk (DV.next n2 _ _ dx)
      exact pairs_ok l r (dput x y acc) (putK q kk w) ι2 H2 h2 Q _ s2 (SE.next (n1.trans n2)) (dput_ok hkk dy (KVs.next (n1.trans n2) _ _ hq)) p2 fun more H3 hl hQ => f ((kk, w) :: more) H3 (by simp [kvLen, hl]) hQ
    · exact p2.elim
theorem SimH.newD {ι : List Addr} {H : Hp} {h : Hs} (s : SimH G ι h H) {p : Addr} {ds : List (D × D)} {q0 q : List (Key × V)} (hp : H p = some (.dK q0)) (hm : p ∉ ι) (l : ds.length ≤ L) (k : KVs G H ι ds q) : SimH G (ι ++ [p]) (h ++ [.dct ds]) (upd H p (.dK q)) := by
  have g : Grow H (upd H p (.dK q)) := .dct hp
  refine ⟨by simp [s.len], fun n w a e1 e2 => ?_, fun n k a e1 e2 => ?_⟩
  · rcases snoc_get e1 with e1 | ⟨rfl, rfl⟩
    · have hn : n < h.length := (List.getElem?_eq_some_iff.mp e1).1
      rw [List.getElem?_append_left (by rw [← s.len]; exact hn)] at e2
      exact MOR.nextG g ⟨[p], rfl⟩ (fun o ho => by rw [upd_ne (fun z => hm (by rw [← z]; exact List.mem_of_getElem? e2))]; exact ho) (s.at_ n w a e1 e2)
    · rw [s.len, List.getElem?_concat_length] at e2
      cases e2
      exact ⟨q, upd_same, l, KVs.next' g ⟨[p], rfl⟩ _ _ k⟩
  · rcases snoc_get e1 with e1 | ⟨r1, z1⟩
    · rcases snoc_get e2 with e2 | ⟨r2, z2⟩
      · exact s.nd n k a e1 e2
      · exact absurd (by rw [← z2]; exact List.mem_of_getElem? e1) hm
    · rcases snoc_get e2 with e2 | ⟨r2, z2⟩
      · exact absurd (by rw [← z1]; exact List.mem_of_getElem? e2) hm
      · exact r1.trans r2.symm
theorem xDct {E : XW} {keys : List (Option Expr)} {values : List Expr} {kvs : IKV} (h : PPs X pos keys values (trsOf G E κ kvs)) (hall : keys.all (·.isSome) = true) (hl : keys.length = values.length) (h0 : keys ≠ []) (h15 : keys.length ≤ 15) (hk : kvLen kvs ≤ 15) : PE X (.Dict keys values pos) (rE G E κ (.dct kvs)) :=
  PEm (pe_disp h hall hl h0 h15) fun τ H Q ⟨ι, σ, h, l, S, SE, p⟩ => by
    intro a ha
    have n0 : Next ι H ι (upd H a (.dK [])) := .extra ha
    have p' : PostD G ι H ((evKV κ kvs [] σ h).bind fun kvs h => new (.dct kvs) h) Q E := p
    refine pairs_ok l kvs [] [] ι _ h (fun q H2 => ∃ ι2 h2 kv, Next ι (upd H a (.dK [])) ι2 H2 ∧ SimH G ι2 h2 H2 ∧ KVs G H2 ι2 kv q ∧ PostD G ι H (new (.dct kv) h2) Q E) _ (S.extra ha) (SE.next n0) rfl ?_ ?_
    · cases ev : evKV κ kvs [] σ h with
      | ok kv h2 => rw [ev] at p'; exact fun ι2 H2 q n s k => ⟨ι2, h2, kv, n, s, k, p'⟩
      | err x h2 => rw [ev] at p'; exact fun ι' H' n s => p' ι' H' (n0.trans n) s
      | stuck => rw [ev] at p'; exact p'.elim
    · intro more H2 hlen ⟨ι2, h2, kv, n, s, k, p2⟩
      obtain ⟨o1, o2⟩ := n.out (p := a) upd_same (S.fresh ha)
      refine ⟨o1, more, rfl, by omega, ?_⟩
      have g2 : Grow H2 (upd H2 a (.dK (mergeK [] more))) := .dct o1
      have p3 : PostD G ι H (.ok (.ref h2.length) (h2 ++ [.dct kv])) Q E := p2
      have hz : kv.length ≤ L := by
        rw [k.length]
        have h1 := length_mergeK more []
        rw [List.length_nil] at h1
        show _ ≤ 16777216
        omega
      refine p3.at_ ⟨?_, (n0.grow.trans n.grow).trans g2, fun b hb => (n0.trans n).keep b (upd_keep hb), fun b o hb hm => ?_⟩ (s.newD o1 o2 hz k) (.ref (by rw [s.len, List.getElem?_concat_length]))
      · obtain ⟨t, e, ft⟩ := (n0.trans n).ext
        refine ⟨t ++ [a], by rw [e]; simp, fun b hb => ?_⟩
        rcases List.mem_append.mp hb with hb | hb
        · exact ft b hb
        · rw [List.mem_singleton.mp hb]; exact ha
      · rw [upd_ne (ne_of_none hb ha)]
        exact (n0.trans n).oth b o hb hm
theorem xDct0 {E : XW} : PE X (.Dict [] [] pos) (rE G E κ (.dct .nil)) :=
  PEm pe_dnewK fun τ H Q ⟨ι, σ, h, l, S, SE, p⟩ a ha => by
    have p' : PostD G ι H (.ok (.ref h.length) (h ++ [.dct []])) Q E := p
    refine p'.at_ (.new ha) (S.new ha ⟨[], upd_same, by simp, rfl⟩) (.ref ?_)
    rw [S.len, List.getElem?_concat_length]
end
end MI
end

section
set_option Elab.async false
set_option linter.all false
set_option maxRecDepth 100000
set_option maxHeartbeats 1000000
/-! MI11: statements. -/
namespace MI
open PySem PySem.Spec PyProof.Rows L2
/-- a statement's wish -/
def SW (G : Gm) (E : XW) (ι : List Addr) (H : Hp) (r : SR) (D : Ends) : Prop :=
  match r with
  | .nx σ' h' => ∀ ι' H' τ', Next ι H ι' H' → SimH G ι' h' H' → σ'.length = τ'.length → SimE G ι' H' σ' τ' → D.nx τ' H'
  | .ret d h' => ∀ ι' H' v, Next ι H ι' H' → SimH G ι' h' H' → DV G H' ι' d v → D.rt v H'
  | .brk σ' h' => ∀ ι' H' τ', Next ι H ι' H' → SimH G ι' h' H' → σ'.length = τ'.length → SimE G ι' H' σ' τ' → D.bk τ' H'
  | .cnt σ' h' => ∀ ι' H' τ', Next ι H ι' H' → SimH G ι' h' H' → σ'.length = τ'.length → SimE G ι' H' σ' τ' → D.ct τ' H'
  | .err x h' => ∀ ι' H', Next ι H ι' H' → SimH G ι' h' H' → E x ι' h' H'
  | .stuck => False
def rSt (G : Gm) (E : XW) (ev : Env → Hs → SR) : TS := fun D τ H => ∃ ι σ h, σ.length = τ.length ∧ SimH G ι h H ∧ SimE G ι H σ τ ∧ SW G E ι H (ev σ h) D
abbrev rS (G : Gm) (E : XW) (κ : Orc) (s : IS) : TS := rSt G E (exS κ s)
abbrev rSs (G : Gm) (E : XW) (κ : Orc) (s : ISs) : TS := rSt G E (exSs κ s)
section
variable {G : Gm} {E : XW} {κ : Orc} {X : Cx} {a b c : Expr} {ia ib ic : IE} {pos : Pos} {tg : Expr}
theorem SW.from {ι ι1 : List Addr} {H H1 : Hp} {r : SR} {D : Ends} (p : SW G E ι H r D) (n : Next ι H ι1 H1) : SW G E ι1 H1 r D := by
  cases r with
  | nx σ h => exact fun ι' H' τ' n' => p ι' H' τ' (n.trans n')
  | ret d h => exact fun ι' H' τ' n' => p ι' H' τ' (n.trans n')
  | brk σ h => exact fun ι' H' τ' n' => p ι' H' τ' (n.trans n')
  | cnt σ h => exact fun ι' H' τ' n' => p ι' H' τ' (n.trans n')
  | err x h => exact fun ι' H' n' => p ι' H' (n.trans n')
  | stuck => exact p
/-- an expression ahead -/
theorem SW.seq {α β : Type} {rel : Hp → List Addr → α → β → Prop} {r : Res α} {k : α → Hs → SR} {ι : List Addr} {H : Hp} {D : Ends} {Q : β → Hp → Prop} (p : SW G E ι H (SR.of r k) D)
    (f : ∀ a h1 ι1 H1 v1, Next ι H ι1 H1 → SimH G ι1 h1 H1 → rel H1 ι1 a v1 → SW G E ι1 H1 (k a h1) D → Q v1 H1) : Post G rel ι H r Q E := by
  cases r with
  | ok a h1 => exact fun ι1 H1 v1 n s d => f a h1 ι1 H1 v1 n s d (SW.from (r := k a h1) p n)
  | err x h1 => exact p
  | stuck => exact p
theorem sEx (ha : PE X a (rE G E κ ia)) (hs : swapsWith a none pos.line X.env = pure false) : PS X (.Expr a pos) (rS G E κ (.ex ia)) :=
  PSm (ps_expr ha hs) fun D τ H ⟨ι, σ, h, l, S, SE, p⟩ => by
    have p' : SW G E ι H (SR.of (evE κ ia σ h) fun _ h => .nx σ h) D := p
    exact ⟨ι, σ, h, l, S, SE, SW.seq p' fun d h1 ι1 H1 v n s dv q => q ι1 H1 τ .refl s l (SE.next n)⟩
theorem sAsg {t : IT} (ha : PE X a (rE G E κ ia)) (hg : PG X tg (rT G E κ t)) (hs : swapsWithSole [tg] a pos.line X.env = pure false) (hw : swappedStores [tg] a X.env = pure none) (h1 : (assignEach [tg] X.env).map (·.2) = [assign tg X.env]) : PS X (.Assign [tg] a pos) (rS G E κ (.asg t ia)) :=
  PSm (ps_asg ha hg hs hw (h1 := h1)) fun D τ H ⟨ι, σ, h, l, S, SE, p⟩ => by
    have p' : SW G E ι H (SR.of (evE κ ia σ h) fun d h => SR.of (evT κ t d σ h) fun σ h => .nx σ h) D := p
    refine ⟨ι, σ, h, l, S, SE, SW.seq p' fun d h1 ι1 H1 v n s dv q => ⟨ι1, σ, h1, d, l, s, SE.next n, dv, ?_⟩⟩
    cases et : evT κ t d σ h1 with
    | ok σ2 h2 => rw [et] at q; exact fun ι2 H2 τ2 n2 s2 l2 se2 _ => q ι2 H2 τ2 n2 s2 l2 se2
    | err x h2 => rw [et] at q; exact q
    | stuck => rw [et] at q; exact q
theorem sPar2 {i j : Nat} {x y : Str} {px py pt : Pos} {kt k2 : Nat} {pt2 : Pos} {ies : IEs} (hc : X.calm = true) (hN : X.N.Nodup) (hi : X.N[i]? = some x) (hj : X.N[j]? = some y) (hij : i ≠ j)
    (hx : X.env.scope.names.lookup x = some .local) (hy : X.env.scope.names.lookup y = some .local) (ha : PA X [a, b] (rEs G E κ ies))
    (hw : swappedStores [.Tuple [.Name x px, .Name y py] kt pt] (.Tuple [a, b] k2 pt2) X.env = pure (some [x, y]))
    (hs : swapsWithSole [.Tuple [.Name x px, .Name y py] kt pt] (.Tuple [a, b] k2 pt2) pos.line X.env = pure false) :
    PS X (.Assign [.Tuple [.Name x px, .Name y py] kt pt] (.Tuple [a, b] k2 pt2) pos) (rS G E κ (.asg (.tp (.cons (.nm i) (.cons (.nm j) .nil))) (.tup ies))) :=
  PSm (ps_par hc hN hi hj hij hx hy ha hw hs) fun D τ H ⟨ι, σ, h, l, S, SE, p⟩ => by
    have p' : SW G E ι H (SR.of ((evEs κ ies σ h).bind fun ds h => if ds.length ≤ L then .ok (MI.D.tup ds) h else .stuck) fun d h => SR.of (evT κ (.tp (.cons (.nm i) (.cons (.nm j) .nil))) d σ h) fun σ h => .nx σ h) D := p
    refine ⟨ι, σ, h, l, S, SE, ?_⟩
    cases ev : evEs κ ies σ h with
    | err x h1 => rw [ev] at p'; exact p'
    | stuck => rw [ev] at p'; exact p'
    | ok ds h1 =>
      rw [ev] at p'
      replace p' : SW G E ι H (SR.of (if ds.length ≤ L then .ok (MI.D.tup ds) h1 else .stuck) fun d h => SR.of (evT κ (.tp (.cons (.nm i) (.cons (.nm j) .nil))) d σ h) fun σ h => .nx σ h) D := p'
      split at p'
      · replace p' : SW G E ι H (SR.of (if ds.length = 2 then evTs κ (.cons (.nm i) (.cons (.nm j) .nil)) ds σ h1 else .stuck) fun σ h => .nx σ h) D := p'
        split at p'
        · rename_i hl2
          intro ι1 H1 vs n s dv
          match ds, hl2 with
          | [d, e], _ =>
            obtain ⟨v, r, rfl, dd, dr⟩ := dv.cons_inv
            obtain ⟨w, rfl, de⟩ := dv1 dr
            refine ⟨v, w, rfl, ?_⟩
            replace p' : SW G E ι H (.nx ((σ.set i (some d)).set j (some e)) h1) D := p'
            exact p' ι1 H1 _ n s (by simp [l]) (SimE.set (by simp [l]) (SimE.set l (SE.next n) dd) de)
        · exact p'.elim
      · exact p'.elim
theorem sPar3 {i j k : Nat} {x y z : Str} {px py pz pt : Pos} {kt k2 : Nat} {pt2 : Pos} {ies : IEs} (hc : X.calm = true) (hN : X.N.Nodup) (hi : X.N[i]? = some x) (hj : X.N[j]? = some y) (hk : X.N[k]? = some z) (hij : i ≠ j) (hik : i ≠ k) (hjk : j ≠ k)
    (hx : X.env.scope.names.lookup x = some .local) (hy : X.env.scope.names.lookup y = some .local) (hz : X.env.scope.names.lookup z = some .local) (ha : PA X [a, b, c] (rEs G E κ ies))
    (hw : swappedStores [.Tuple [.Name x px, .Name y py, .Name z pz] kt pt] (.Tuple [a, b, c] k2 pt2) X.env = pure (some [x, y, z]))
    (hs : swapsWithSole [.Tuple [.Name x px, .Name y py, .Name z pz] kt pt] (.Tuple [a, b, c] k2 pt2) pos.line X.env = pure false) :
    PS X (.Assign [.Tuple [.Name x px, .Name y py, .Name z pz] kt pt] (.Tuple [a, b, c] k2 pt2) pos) (rS G E κ (.asg (.tp (.cons (.nm i) (.cons (.nm j) (.cons (.nm k) .nil)))) (.tup ies))) :=
  PSm (ps_par3 hc hN hi hj hk hij hik hjk hx hy hz ha hw hs) fun D τ H ⟨ι, σ, h, l, S, SE, p⟩ => by
    have p' : SW G E ι H (SR.of ((evEs κ ies σ h).bind fun ds h => if ds.length ≤ L then .ok (MI.D.tup ds) h else .stuck) fun d h => SR.of (evT κ (.tp (.cons (.nm i) (.cons (.nm j) (.cons (.nm k) .nil)))) d σ h) fun σ h => .nx σ h) D := p
    refine ⟨ι, σ, h, l, S, SE, ?_⟩
    cases ev : evEs κ ies σ h with
    | err x h1 => rw [ev] at p'; exact p'
    | stuck => rw [ev] at p'; exact p'
    | ok ds h1 =>
      rw [ev] at p'
      replace p' : SW G E ι H (SR.of (if ds.length ≤ L then .ok (MI.D.tup ds) h1 else .stuck) fun d h => SR.of (evT κ (.tp (.cons (.nm i) (.cons (.nm j) (.cons (.nm k) .nil)))) d σ h) fun σ h => .nx σ h) D := p'
      split at p'
      · replace p' : SW G E ι H (SR.of (if ds.length = 3 then evTs κ (.cons (.nm i) (.cons (.nm j) (.cons (.nm k) .nil))) ds σ h1 else .stuck) fun σ h => .nx σ h) D := p'
        split at p'
        · rename_i hl2
          intro ι1 H1 vs n s dv
          match ds, hl2 with
          | [d, e, f], _ =>
            obtain ⟨v, r, rfl, dd, dr⟩ := dv.cons_inv
            obtain ⟨w, r, rfl, de, dr⟩ := dr.cons_inv
            obtain ⟨u, rfl, df⟩ := dv1 dr
            replace p' : SW G E ι H (.nx (((σ.set i (some d)).set j (some e)).set k (some f)) h1) D := p'
            refine ⟨v, w, u, rfl, ?_⟩
            exact p' ι1 H1 _ n s (by simp [l]) (SimE.set (by simp [l]) (SimE.set (by simp [l]) (SimE.set l (SE.next n) dd) de) df)
        · exact p'.elim
      · exact p'.elim
theorem sIf {sa sb : List Stmt} {isa isb : ISs} (hc : PT X c (rB G E κ ic)) (ha : PSs X sa (rSs G E κ isa)) (hb : PSs X sb (rSs G E κ isb)) : PS X (.If c sa sb pos) (rS G E κ (.iff ic isa isb)) :=
  PSm (ps_if hc ha hb) fun D τ H ⟨ι, σ, h, l, S, SE, p⟩ => by
    have p' : SW G E ι H (SR.of (evB κ ic σ h) fun k h => if k then exSs κ isa σ h else exSs κ isb σ h) D := p
    refine ⟨ι, σ, h, l, S, SE, SW.seq (rel := relB) p' fun k h1 ι1 H1 k' n s e q => ?_⟩
    have e' : k = k' := e
    subst e'
    cases k with
    | true => rw [if_pos rfl]; exact ⟨ι1, σ, h1, l, s, SE.next n, q⟩
    | false => rw [if_neg (by decide)]; exact ⟨ι1, σ, h1, l, s, SE.next n, q⟩
theorem sRet (ha : PE X a (rE G E κ ia)) : PS X (.Return (some a) pos) (rS G E κ (.ret ia)) :=
  PSm (ps_ret ha) fun D τ H ⟨ι, σ, h, l, S, SE, p⟩ => by
    have p' : SW G E ι H (SR.of (evE κ ia σ h) fun d h => .ret d h) D := p
    exact ⟨ι, σ, h, l, S, SE, SW.seq p' fun d h1 ι1 H1 v n s dv q => q ι1 H1 v .refl s dv⟩
theorem sRetN : PS X (.Return none pos) (rS G E κ .retN) := PSm ps_retN fun D τ H ⟨ι, σ, h, l, S, SE, p⟩ => p ι H _ .refl S DV.non
theorem sBrk : PS X (.Break pos) (rS G E κ .brk) := PSm ps_break fun D τ H ⟨ι, σ, h, l, S, SE, p⟩ => p ι H τ .refl S l SE
theorem sCnt : PS X (.Continue pos) (rS G E κ .cnt) := PSm ps_continue fun D τ H ⟨ι, σ, h, l, S, SE, p⟩ => p ι H τ .refl S l SE
theorem sPass : PS X (.Pass pos) (rS G E κ .pass) := PSm ps_pass fun D τ H ⟨ι, σ, h, l, S, SE, p⟩ => p ι H τ .refl S l SE
theorem ssNil : PSs X [] (rSs G E κ .nil) := PSsm pss_nil fun D τ H ⟨ι, σ, h, l, S, SE, p⟩ => p ι H τ .refl S l SE
theorem ssCons {st : Stmt} {sts : List Stmt} {is : IS} {iss : ISs} (h1 : PS X st (rS G E κ is)) (h2 : PSs X sts (rSs G E κ iss)) : PSs X (st :: sts) (rSs G E κ (.cons is iss)) :=
  PSsm (pss_cons h1 h2) fun D τ H ⟨ι, σ, h, l, S, SE, p⟩ => by
    refine ⟨ι, σ, h, l, S, SE, ?_⟩
    have p' : SW G E ι H (match exS κ is σ h with
      | .nx σ h => exSs κ iss σ h
      | .ret d h => .ret d h
      | .brk σ h => .brk σ h
      | .cnt σ h => .cnt σ h
      | .err x h => .err x h
      | .stuck => .stuck) D := p
    cases ev : exS κ is σ h with
    | nx σ1 h1 => rw [ev] at p'; exact fun ι1 H1 τ1 n s l1 se => ⟨ι1, σ1, h1, l1, s, se, SW.from (r := exSs κ iss σ1 h1) p' n⟩
    | ret d h1 => rw [ev] at p'; exact p'
    | brk σ1 h1 => rw [ev] at p'; exact p'
    | cnt σ1 h1 => rw [ev] at p'; exact p'
    | err x h1 => rw [ev] at p'; exact p'
    | stuck => rw [ev] at p'; exact p'
/-! ### loops -/
theorem itω_inv {cc : Env → Hs → Res Bool} {bb : Env → Hs → SR} {σ : Env} {h : Hs} {ι : List Addr} {H : Hp} {D : Ends} (p : SW G E ι H (itω cc bb σ h) D) : ∃ m, SW G E ι H (iter cc bb m σ h) D := by
  unfold itω at p
  split at p
  · rename_i e
    exact ⟨e.choose, p⟩
  · exact p.elim
theorem sWhl {sb : List Stmt} {isb : ISs} (hκ : κ.it = itω) (hp : PassesOwn (model X.prog X.w) X.A X.env X.xe) (hc : PT X c (rB G E κ ic)) (hb : PSs X sb (rSs G E κ isb)) : PS X (.While c sb [] pos) (rS G E κ (.whl ic isb)) :=
  PSm (ps_while hp hc hb) fun D τ H ⟨ι, σ, h, l, S, SE, p⟩ => by
    have p' : SW G E ι H (κ.it (evB κ ic) (exSs κ isb) σ h) D := p
    rw [hκ] at p'
    obtain ⟨m, p'⟩ := itω_inv p'
    refine ⟨fun m τ2 H2 => ∃ ι2 σ2 h2, Next ι H ι2 H2 ∧ σ2.length = τ2.length ∧ SimH G ι2 h2 H2 ∧ SimE G ι2 H2 σ2 τ2 ∧ SW G E ι H (iter (evB κ ic) (exSs κ isb) m σ2 h2) D, ⟨m, ι, σ, h, .refl, l, S, SE, p'⟩, ?_⟩
    rintro m τ2 H2 ⟨ι2, σ2, h2, n2, l2, S2, SE2, q⟩
    cases m with
    | zero => exact q.elim
    | succ m =>
      simp only [iter] at q
      refine ⟨ι2, σ2, h2, l2, S2, SE2, ?_⟩
      cases ev : evB κ ic σ2 h2 with
      | err x h3 => rw [ev] at q; exact fun ι' H' n s => q ι' H' (n2.trans n) s
      | stuck => rw [ev] at q; exact q.elim
      | ok k h3 =>
        rw [ev] at q
        intro ι3 H3 k' n3 S3 e
        have e' : k = k' := e
        subst e'
        cases k with
        | false => rw [if_neg (by decide)]; exact q ι3 H3 τ2 (n2.trans n3) S3 l2 (SE2.next n3)
        | true =>
          rw [if_pos rfl]
          refine ⟨fun τ4 H4 => ∃ ι2 σ2 h2, Next ι H ι2 H4 ∧ σ2.length = τ4.length ∧ SimH G ι2 h2 H4 ∧ SimE G ι2 H4 σ2 τ4 ∧ SW G E ι H (iter (evB κ ic) (exSs κ isb) m σ2 h2) D, fun τ4 H4 w => ⟨m, Nat.lt_succ_self m, w⟩, ι3, σ2, h3, l2, S3, SE2.next n3, ?_⟩
          replace q : SW G E ι H (match exSs κ isb σ2 h3 with
              | .nx σ h => iter (evB κ ic) (exSs κ isb) m σ h
              | .cnt σ h => iter (evB κ ic) (exSs κ isb) m σ h
              | .brk σ h => .nx σ h
              | .ret d h => .ret d h
              | .err x h => .err x h
              | .stuck => .stuck) D := q
          cases eb : exSs κ isb σ2 h3 with
          | nx σ4 h4 => rw [eb] at q; exact fun ι4 H4 τ4 n4 s4 l4 se4 => ⟨ι4, σ4, h4, (n2.trans n3).trans n4, l4, s4, se4, q⟩
          | cnt σ4 h4 => rw [eb] at q; exact fun ι4 H4 τ4 n4 s4 l4 se4 => ⟨ι4, σ4, h4, (n2.trans n3).trans n4, l4, s4, se4, q⟩
          | brk σ4 h4 => rw [eb] at q; exact fun ι4 H4 τ4 n4 s4 l4 se4 => q ι4 H4 τ4 ((n2.trans n3).trans n4) s4 l4 se4
          | ret d h4 => rw [eb] at q; exact fun ι4 H4 v n4 s4 dv => q ι4 H4 v ((n2.trans n3).trans n4) s4 dv
          | err x h4 => rw [eb] at q; exact fun ι4 H4 n4 s4 => q ι4 H4 ((n2.trans n3).trans n4) s4
          | stuck => rw [eb] at q; exact q.elim
theorem sFor {iter : Expr} {it : II} {t : IT} {sb : List Stmt} {isb : ISs} (hp : PassesOwn (model X.prog X.w) X.A X.env X.xe) (hc : X.calm = true) (hi : PI X tg iter (rI G E κ it)) (hg : PG X tg (rT G E κ t)) (hb : PSs X sb (rSs G E κ isb)) (hfs : ∀ x, foldedSetIterable iter X.env x = pure x) : PS X (.For tg iter sb [] pos) (rS G E κ (.for_ t it isb)) :=
  PSm (ps_for hp hc hi hg hb (hs := hfs)) fun D τ H ⟨ι, σ, h, l, S, SE, p⟩ => by
    refine ⟨ι, σ, h, l, S, SE, ?_⟩
    generalize hf : (fun (d : MI.D) (σ : Env) (h : Hs) => SR.of (evT κ t d σ h) fun σ h => exSs κ isb σ h) = f
    have p' : SW G E ι H (SR.of (evI κ it σ h) fun s h => forS f s σ h) D := by rw [← hf]; exact p
    cases ev : evI κ it σ h with
    | err x h1 => rw [ev] at p'; exact p'
    | stuck => rw [ev] at p'; exact p'
    | ok sr h1 =>
      rw [ev] at p'
      intro ι1 H1 J n1 S1 fd
      refine ⟨fun i m τ2 H2 => ∃ ι2 σ2 h2, Next ι1 H1 ι2 H2 ∧ σ2.length = τ2.length ∧ SimH G ι2 h2 H2 ∧ SimE G ι2 H2 σ2 τ2 ∧ SW G E ι1 H1 (forL f sr m i σ2 h2) D, ⟨srcLen sr h1, ι1, σ, h1, .refl, l, S1, SE.next n1, SW.from (r := forL f sr (srcLen sr h1) 0 σ h1) p' n1⟩, ?_⟩
      rintro i m τ2 H2 ⟨ι2, σ2, h2, n2, l2, S2, SE2, q⟩
      cases m with
      | zero =>
        left
        simp only [forL] at q
        split at q
        · rename_i he
          exact ⟨fd.stop ι2 h2 H2 i n2 S2 he, q ι2 H2 τ2 n2 S2 l2 SE2⟩
        · exact q.elim
      | succ m =>
        right
        simp only [forL] at q
        cases ed : srcAt sr h2 i with
        | none => rw [ed] at q; exact q.elim
        | some d =>
          rw [ed] at q
          obtain ⟨hgo, hy⟩ := fd.go ι2 h2 H2 i d n2 S2 ed
          refine ⟨hgo, fun τ4 H4 => ∃ ι2 σ2 h2, Next ι1 H1 ι2 H4 ∧ σ2.length = τ4.length ∧ SimH G ι2 h2 H4 ∧ SimE G ι2 H4 σ2 τ4 ∧ SW G E ι1 H1 (forL f sr m (i + 1) σ2 h2) D, fun τ4 H4 w => ⟨m, Nat.lt_succ_self m, w⟩, fun x H' y => ?_⟩
          obtain ⟨rfl, dx⟩ := hy x H' y
          refine ⟨ι2, σ2, h2, d, l2, S2, SE2, dx, ?_⟩
          replace q : SW G E ι1 H1 (match f d σ2 h2 with
            | .nx σ h => forL f sr m (i + 1) σ h
            | .cnt σ h => forL f sr m (i + 1) σ h
            | .brk σ h => .nx σ h
            | .ret d h => .ret d h
            | .err x h => .err x h
            | .stuck => .stuck) D := q
          have fe : f d σ2 h2 = SR.of (evT κ t d σ2 h2) fun σ h => exSs κ isb σ h := by rw [← hf]
          rw [fe] at q
          cases et : evT κ t d σ2 h2 with
          | err x h3 => rw [et] at q; exact fun ι' H' n s => q ι' H' (n2.trans n) s
          | stuck => rw [et] at q; exact q.elim
          | ok σ3 h3 =>
            rw [et] at q
            intro ι3 H3 τ3 n3 S3 l3 se3 _
            refine ⟨ι3, σ3, h3, l3, S3, se3, ?_⟩
            replace q : SW G E ι1 H1 (match exSs κ isb σ3 h3 with
              | .nx σ h => forL f sr m (i + 1) σ h
              | .cnt σ h => forL f sr m (i + 1) σ h
              | .brk σ h => .nx σ h
              | .ret d h => .ret d h
              | .err x h => .err x h
              | .stuck => .stuck) D := q
            cases eb : exSs κ isb σ3 h3 with
            | nx σ4 h4 => rw [eb] at q; exact fun ι4 H4 τ4 n4 s4 l4 se4 => ⟨ι4, σ4, h4, (n2.trans n3).trans n4, l4, s4, se4, q⟩
            | cnt σ4 h4 => rw [eb] at q; exact fun ι4 H4 τ4 n4 s4 l4 se4 => ⟨ι4, σ4, h4, (n2.trans n3).trans n4, l4, s4, se4, q⟩
            | brk σ4 h4 => rw [eb] at q; exact fun ι4 H4 τ4 n4 s4 l4 se4 => q ι4 H4 τ4 ((n2.trans n3).trans n4) s4 l4 se4
            | ret d h4 => rw [eb] at q; exact fun ι4 H4 v n4 s4 dv => q ι4 H4 v ((n2.trans n3).trans n4) s4 dv
            | err x h4 => rw [eb] at q; exact fun ι4 H4 n4 s4 => q ι4 H4 ((n2.trans n3).trans n4) s4
            | stuck => rw [eb] at q; exact q.elim
end
end MI
end

section
set_option Elab.async false
set_option linter.all false
set_option maxRecDepth 100000
set_option maxHeartbeats 1000000
/-! MI12: from the program's expressions to MI1's, by a function, with its proof. -/
namespace MI
open PySem PySem.Spec PyProof.Rows L2
inductive Gd where
  | fn (f ar : Nat) | con (d : D) | free
structure CT where
  N : List Str
  sc : Scope
  T : List (Str × Gd)
  top : Bool
def ixOf : List Str → Str → Option Nat
  | [], _ => none
  | y :: ys, x => if y = x then some 0 else (ixOf ys x).map (· + 1)
theorem ixOf_ok : ∀ {N : List Str} {x : Str} {i : Nat}, ixOf N x = some i → N[i]? = some x
  | [], x, i, h => by cases h
  | y :: ys, x, i, h => by
    unfold ixOf at h
    split at h
    · rename_i e; cases h; simp [e]
    · obtain ⟨j, e, rfl⟩ := Option.map_eq_some_iff.mp h
      simpa using ixOf_ok e
structure XOk (G : Gm) (κ : Orc) (C : CT) (X : Cx) : Prop where
  hK : X.K = G.K
  hN : X.N = C.N
  sc : X.env.scope = C.sc
  nd : X.N.Nodup
  calm : X.calm = true
  u : X.A.units + 65 < cLine
  fn : C.top = true → ∀ x, X.fn x = true
  gfn : ∀ x f ar, C.T.lookup x = some (.fn f ar) → ∃ k fa fd ps, ps.length = ar ∧ X.mg x = some (.ref fa) ∧ FnOk X.prog X.w X.K X.mg X.base CX0 k fa fd ps (spF G NoE ps.length (κ.call f)) ∧ Room k X.A ∧ PySem.W.keepIn X.K (.ref fa) = true ∧ Binds X.K fd ps []
  gcon : ∀ x d, C.T.lookup x = some (.con d) → ∃ v u, X.mg x = some u ∧ RelV v u ∧ ∀ ι H, DV G H ι d v
  gfree : ∀ x, C.T.lookup x = some .free → X.mg x = none
structure Ok (G : Gm) (κ : Orc) (X : Cx) (e : Expr) (ie : IE) : Prop where
  pe : PE X e (rE G NoE κ ie)
  pt : PT X e (rB G NoE κ ie)
  pw : ∀ op vs pos, e = .BoolOp op vs pos → PW X e (rB G NoE κ ie)
theorem Ok.pws {G : Gm} {κ : Orc} {X : Cx} {e : Expr} {ie : IE} (a : PE X e (rE G NoE κ ie)) (b : PW X e (rB G NoE κ ie)) : Ok G κ X e ie := ⟨a, b.pt, fun _ _ _ _ => b⟩
def noStar : Expr → Bool
  | .Starred .. => false
  | _ => true
theorem star_cons {e : Expr} {es : List Expr} {env : PySem.Env} (h : noStar e = true) : starEach (e :: es) env = (false, eval e env) :: starEach es env :=
  starEach_cons fun e' p z => by rw [z] at h; cases h
def cEs (f : Expr → Option IE) : List Expr → Option IEs
  | [] => some .nil
  | e :: es => if noStar e = true then (match f e, cEs f es with
    | some a, some b => some (.cons a b)
    | _, _ => none) else none
def iesLen : IEs → Nat
  | .nil => 0
  | .cons _ r => iesLen r + 1
theorem evEs_lenI {κ : Orc} : ∀ {ies : IEs} {σ : Env} {h h' : Hs} {ds : List D}, evEs κ ies σ h = .ok ds h' → ds.length = iesLen ies
  | .nil, σ, h, h', ds, e => by cases e; rfl
  | .cons a r, σ, h, h', ds, e => by
    have e' : ((evE κ a σ h).bind fun d h => (evEs κ r σ h).bind fun ds h => .ok (d :: ds) h) = .ok ds h' := e
    cases e1 : evE κ a σ h with
    | ok d h1 =>
      rw [e1] at e'
      have e2 : ((evEs κ r σ h1).bind fun ds h => Res.ok (d :: ds) h) = .ok ds h' := e'
      cases e3 : evEs κ r σ h1 with
      | ok es h2 =>
        rw [e3] at e2
        cases e2
        simp [iesLen, evEs_lenI e3]
      | err x h2 => rw [e3] at e2; cases e2
      | stuck => rw [e3] at e2; cases e2
    | err x h1 => rw [e1] at e'; cases e'
    | stuck => rw [e1] at e'; cases e'
section
variable {G : Gm} {κ : Orc} {C : CT} {X : Cx}
theorem cEs_ok {f : Expr → Option IE} (hf : ∀ e ie, f e = some ie → Ok G κ X e ie) : ∀ {es : List Expr} {ies : IEs}, cEs f es = some ies → PA X es (rEs G NoE κ ies) ∧ (∀ pos, (backTo pos (starEach es X.env)).all (fun x => !x.1) = true) ∧ iesLen ies = es.length
  | [], ies, h => by cases h; exact ⟨xNil, fun _ => rfl, rfl⟩
  | e :: es, ies, h => by
    unfold cEs at h
    split at h
    · rename_i hs
      split at h
      · rename_i a b ea eb
        cases h
        obtain ⟨p, q, l⟩ := cEs_ok hf eb
        exact ⟨xCons (hf _ _ ea).pe p (star_cons hs), fun pos => by rw [star_cons hs]; simpa [backTo] using q pos, by simp [iesLen, l]⟩
      · cases h
    · cases h
theorem cEs_star {f : Expr → Option IE} {e : Expr} {es : List Expr} {ies : IEs} (h : cEs f (e :: es) = some ies) : noStar e = true ∧ ∃ a b, f e = some a ∧ cEs f es = some b ∧ ies = .cons a b := by
  unfold cEs at h
  split at h
  · rename_i hs
    split at h
    · rename_i a b ea eb
      cases h
      exact ⟨hs, a, b, ea, eb, rfl⟩
    · cases h
  · cases h
theorem any_of_all {l : List (Bool × Sem Value)} (h : l.all (fun x => !x.1) = true) : l.any (·.1) = false := by
  induction l with
  | nil => rfl
  | cons a l ih =>
    simp only [List.all_cons, Bool.and_eq_true] at h
    simp only [List.any_cons, ih h.2, Bool.or_false]
    simpa using h.1
/-! ### constants, names -/
def sokB (x : Str) : Bool := decide (x.cps.toList.length ≤ L) && x.cps.toList.all fun c => decide (c < 1114112)
def cConst : Const → Option IE
  | .int i => some (.c (.int i))
  | .bool b => some (.c (.bl b))
  | .none => some (.c .non)
  | .str x => if sokB x = true then some (.c (.str x.cps.toList)) else none
  | _ => none
def cName (C : CT) (x : Str) : Option IE :=
  if (x == ("__debug__" : Str)) = false ∧ (x == ("__classdict__" : Str)) = false then
    match C.sc.names.lookup x with
    | some .local => (ixOf C.N x).map .v
    | some .cell => (ixOf C.N x).map .v
    | some .free => (ixOf C.N x).map .v
    | some .globalImplicit => (match C.T.lookup x with
      | some (.con d) => some (.c d)
      | _ => none)
    | _ => none
  else none

theorem sokB_ok {x : Str} (h : sokB x = true) : SOk x.cps.toList := by
  unfold sokB at h
  simp only [Bool.and_eq_true, decide_eq_true_eq, List.all_eq_true] at h
  exact h
theorem cConst_ok (O : XOk G κ C X) {c : Const} {ie : IE} {k : Nat} {pos : Pos} (h : cConst c = some ie) : Ok G κ X (.Constant c k pos) ie := by
  have p : PE X (.Constant c k pos) (rE G NoE κ ie) := by
    unfold cConst at h
    split at h
    · cases h; exact xC_int
    · cases h; exact xC_bl
    · cases h; exact xC_non
    · split at h
      · rename_i hs; cases h; exact xC_str (sokB_ok hs)
      · cases h
    · cases h
  exact ⟨p, tAny_ O.hK p fun _ => rfl, fun _ _ _ z => by cases z⟩
theorem cName_ok (O : XOk G κ C X) {x : Str} {pos : Pos} {ie : IE} (h : cName C x = some ie) : PE X (.Name x pos) (rE G NoE κ ie) := by
  unfold cName at h
  split at h
  · rename_i hh
    obtain ⟨h1, h2⟩ := hh
    have ix : ∀ {i}, ixOf C.N x = some i → X.N[i]? = some x := fun e => by rw [O.hN]; exact ixOf_ok e
    split at h
    · rename_i e
      obtain ⟨i, ei, rfl⟩ := Option.map_eq_some_iff.mp h
      exact xV (ix ei) (.inl (by rw [O.sc]; exact e)) h1 h2
    · rename_i e
      obtain ⟨i, ei, rfl⟩ := Option.map_eq_some_iff.mp h
      exact xV (ix ei) (.inr (.inl (by rw [O.sc]; exact e))) h1 h2
    · rename_i e
      obtain ⟨i, ei, rfl⟩ := Option.map_eq_some_iff.mp h
      exact xV (ix ei) (.inr (.inr (by rw [O.sc]; exact e))) h1 h2
    · rename_i e
      split at h
      · rename_i d ed
        cases h
        obtain ⟨v, u, a, b, c⟩ := O.gcon x d ed
        exact xGlob (show X.env.scope.names.lookup x = _ by rw [O.sc]; exact e) a b h1 c
      · cases h
    · cases h
  · cases h
/-! ### displays -/
def cKV (f : Expr → Option IE) : List (Option Expr) → List Expr → Option IKV
  | [], [] => some .nil
  | some k :: ks, v :: vs => (match f k, f v, cKV f ks vs with
    | some a, some b, some c => some (.cons a b c)
    | _, _, _ => none)
  | _, _ => none
theorem cKV_ok {f : Expr → Option IE} {pos : Pos} (hf : ∀ e ie, f e = some ie → Ok G κ X e ie) : ∀ {ks : List (Option Expr)} {vs : List Expr} {kv : IKV}, cKV f ks vs = some kv → PPs X pos ks vs (trsOf G NoE κ kv) ∧ ks.all (·.isSome) = true ∧ ks.length = vs.length ∧ kvLen kv = ks.length
  | [], [], kv, h => by cases h; exact ⟨pps_nil, rfl, rfl, rfl⟩
  | some k :: ks, v :: vs, kv, h => by
    unfold cKV at h
    split at h
    · rename_i a b c ea eb ec
      cases h
      obtain ⟨p, q, l, m⟩ := cKV_ok hf ec
      exact ⟨pps_cons (hf _ _ ea).pe (hf _ _ eb).pe p, by simpa using q, by simp [l], by simp [kvLen, m]⟩
    · cases h
  | none :: ks, vs, kv, h => by unfold cKV at h; cases h
  | [], v :: vs, kv, h => by cases h
  | some k :: ks, [], kv, h => by cases h
def cDict (f : Expr → Option IE) (ks : List (Option Expr)) (vs : List Expr) : Option IE :=
  if ks.length ≤ 15 then (cKV f ks vs).map .dct else none
theorem cDict_ok {f : Expr → Option IE} {pos : Pos} (hf : ∀ e ie, f e = some ie → Ok G κ X e ie) {ks : List (Option Expr)} {vs : List Expr} {ie : IE} (h : cDict f ks vs = some ie) : PE X (.Dict ks vs pos) (rE G NoE κ ie) := by
  unfold cDict at h
  split at h
  · rename_i hl
    obtain ⟨kv, e, rfl⟩ := Option.map_eq_some_iff.mp h
    obtain ⟨p, q, l, m⟩ := cKV_ok (pos := pos) hf e
    cases ks with
    | nil =>
      cases vs with
      | nil => cases e; exact xDct0
      | cons => cases l
    | cons k ks => exact xDct p q l (by simp) hl (by rw [m]; exact hl)
  · cases h
/-! ### comparisons, subscripts -/
def cCmp (f : Expr → Option IE) (a : Expr) (ops : List CmpOp) (bs : List Expr) : Option IE :=
  match ops, bs with
  | [op], [b] => if behindInMarks op b = false then (match coOf op, f a, f b with
    | some o, some x, some y => some (.cmp o x y)
    | _, _, _ => none) else none
  | [op, op'], [b, c] => if lastMarks [op, op'] [b, c] = false then (match coOf op, coOf op', f a, f b, f c with
    | some o, some p, some x, some y, some z => some (.chn o p x y z)
    | _, _, _, _, _ => none) else none
  | _, _ => none
theorem cCmp_ok (O : XOk G κ C X) {f : Expr → Option IE} {pos : Pos} (hf : ∀ e ie, f e = some ie → Ok G κ X e ie) {a : Expr} {ops : List CmpOp} {bs : List Expr} {ie : IE} (h : cCmp f a ops bs = some ie) : Ok G κ X (.Compare a ops bs pos) ie := by
  unfold cCmp at h
  split at h
  · split at h
    · rename_i hm
      split at h
      · rename_i o x y eo ex ey
        cases h
        exact ⟨xCmp O.hK O.u eo hm (hf _ _ ex).pe (hf _ _ ey).pe, tCmp_ O.hK O.u eo hm (hf _ _ ex).pe (hf _ _ ey).pe, fun _ _ _ z => by cases z⟩
      · cases h
    · cases h
  · split at h
    · rename_i hm
      split at h
      · rename_i o p x y z eo ep ex ey ez
        cases h
        exact ⟨xChn O.hK O.u eo ep hm (hf _ _ ex).pe (hf _ _ ey).pe (hf _ _ ez).pe, tChn O.hK O.u eo ep hm (hf _ _ ex).pe (hf _ _ ey).pe (hf _ _ ez).pe, fun _ _ _ z => by cases z⟩
      · cases h
    · cases h
  · cases h
def cOpt (f : Expr → Option IE) : Option Expr → Option IO
  | none => some .none
  | some e => (f e).map .some
theorem cOpt_ok {f : Expr → Option IE} (hf : ∀ e ie, f e = some ie → Ok G κ X e ie) {e : Option Expr} {io : IO} (h : cOpt f e = some io) : PO X e (rO G NoE κ io) := by
  cases e with
  | none => cases h; exact oNone
  | some e =>
    obtain ⟨a, ea, rfl⟩ := Option.map_eq_some_iff.mp h
    exact oSome (hf _ _ ea).pe
def plainIx : Expr → Bool
  | .Slice .. => false
  | .Tuple .. => false
  | .Constant .. => true
  | .Name .. => true
  | .BinOp .. => true
  | .UnaryOp .. => true
  | .Subscript .. => true
  | .Call .. => true
  | .IfExp .. => true
  | _ => false
def cSub (f : Expr → Option IE) (a b : Expr) : Option IE :=
  match b with
  | .Slice lo hi none _ => (match f a, cOpt f lo, cOpt f hi with
    | some x, some l, some r => some (.sl x l r)
    | _, _, _ => none)
  | b => if plainIx b = true then (match f a, f b with
    | some x, some y => some (.ix x y)
    | _, _ => none) else none
theorem plainIx_ok {b : Expr} (h : plainIx b = true) : PlainIx b := by
  cases b <;> first | (cases h; done) | exact fun _ _ => rfl
theorem cSub_ok (O : XOk G κ C X) {f : Expr → Option IE} {pos : Pos} (hf : ∀ e ie, f e = some ie → Ok G κ X e ie) {a b : Expr} {ie : IE} (h : cSub f a b = some ie) : PE X (.Subscript a b pos) (rE G NoE κ ie) := by
  unfold cSub at h
  split at h
  · split at h
    · rename_i x l r ex el er
      cases h
      exact xSl O.hK (hf _ _ ex).pe (cOpt_ok hf el) (cOpt_ok hf er)
    · cases h
  · split at h
    · rename_i hp
      split at h
      · rename_i x y ex ey
        cases h
        exact xIx O.hK (by have := O.u; omega) (plainIx_ok hp) (hf _ _ ex).pe (hf _ _ ey).pe
      · cases h
    · cases h
/-! ### calls -/
def gl (C : CT) (x : Str) : Bool := decide (C.sc.names.lookup x = some .globalImplicit)
def freeB (C : CT) (x : Str) : Bool := gl C x && (match C.T.lookup x with
  | some .free => true
  | _ => false)
theorem gl_ok (O : XOk G κ C X) {x : Str} (h : gl C x = true) : Gl X x := by
  show X.env.scope.names.lookup x = _
  rw [O.sc]
  exact of_decide_eq_true h
theorem free_ok (O : XOk G κ C X) {x : Str} (h : freeB C x = true) : Gl X x ∧ X.mg x = none := by
  unfold freeB at h
  simp only [Bool.and_eq_true] at h
  refine ⟨gl_ok O h.1, O.gfree x ?_⟩
  have := h.2
  split at this
  · assumption
  · cases this
def biOf (x : Str) : Option BI :=
  if x = "len" then some .len else if x = "list" then some .list else if x = "tuple" then some .tuple else if x = "str" then some .str else if x = "int" then some .int else if x = "all" then some .all else if x = "any" then some .any else none
theorem biOf_ok (O : XOk G κ C X) {x : Str} {b : BI} {e : Expr} {es : List Expr} {ies : IEs} {p pos : Pos} (h : biOf x = some b) (hg : Gl X x) (hm : X.mg x = none) (ha : PA X (e :: es) (rEs G NoE κ ies)) (he : starEach (e :: es) X.env = (false, eval e X.env) :: starEach es X.env) (hpl : (backTo pos (starEach es X.env)).any (·.1) = false) :
    PE X (.Call (.Name x p) (e :: es) [] pos) (rE G NoE κ (.bi b ies)) := by
  unfold biOf at h
  repeat' split at h
  all_goals first
    | cases h; done
    | (cases h; subst_vars; first
      | exact xBi (fun _ _ => rfl) (c_len O.hK) hg hm (by decide +kernel) ha (by decide) (by decide) he hpl
      | exact xTy (fun _ _ => rfl) (c_list O.hK O.calm) hg hm (by decide +kernel) ha (by decide) (by decide) he hpl
      | exact xTy (fun _ _ => rfl) (c_tuple O.hK) hg hm (by decide +kernel) ha (by decide) (by decide) he hpl
      | exact xTy (fun _ _ => rfl) c_str hg hm (by decide +kernel) ha (by decide) (by decide) he hpl
      | exact xTy (fun _ _ => rfl) c_int hg hm (by decide +kernel) ha (by decide) (by decide) he hpl
      | exact xBi (fun _ _ => rfl) (c_all O.hK O.calm) hg hm (by decide +kernel) ha (by decide) (by decide) he hpl
      | exact xBi (fun _ _ => rfl) (c_any O.hK O.calm) hg hm (by decide +kernel) ha (by decide) (by decide) he hpl)
def cTys (C : CT) : List Expr → Option (List MI.Ty)
  | [] => some []
  | .Name x _ :: es => if freeB C x = true then (match tyOfName x, cTys C es with
    | some t, some ts => some (t :: ts)
    | _, _ => none) else none
  | _ => none
theorem cTys_ok (O : XOk G κ C X) : ∀ {es : List Expr} {ts : List MI.Ty}, cTys C es = some ts → TyNs X es ts ∧ ts.length = es.length
  | [], ts, h => by cases h; exact ⟨.nil, rfl⟩
  | e :: es, ts, h => by
    unfold cTys at h
    split at h
    · rename_i z; cases z
    · rename_i x p es' z
      cases z
      split at h
      · rename_i hf
        split at h
        · rename_i t ts et es
          cases h
          obtain ⟨a, b⟩ := cTys_ok O es
          obtain ⟨g, m⟩ := free_ok O hf
          exact ⟨.cons g m et a, by simp [b]⟩
        · cases h
      · cases h
    · cases h
def cIsi (f : Expr → Option IE) (C : CT) (args : List Expr) : Option IE :=
  match args with
  | [a, .Name x _] => if noStar a = true then (match f a, cTys C [.Name x ⟨0, 0, 0, 0⟩] with
    | some ia, some [t] => some (.isi ia [t])
    | _, _ => none) else none
  | [a, .Tuple es _ _] => if noStar a = true ∧ es.length ≤ 100 then (match f a, cTys C es with
    | some ia, some ts => some (.isi ia ts)
    | _, _ => none) else none
  | _ => none
theorem cIsi_ok (O : XOk G κ C X) {f : Expr → Option IE} {p pos : Pos} (hf : ∀ e ie, f e = some ie → Ok G κ X e ie) {args : List Expr} {ie : IE} (hfr : freeB C "isinstance" = true) (h : cIsi f C args = some ie) : PE X (.Call (.Name "isinstance" p) args [] pos) (rE G NoE κ ie) := by
  obtain ⟨g, m⟩ := free_ok O hfr
  unfold cIsi at h
  split at h
  · split at h
    · rename_i hs
      split at h
      · rename_i ia t ea et
        cases h
        obtain ⟨q, _⟩ := cTys_ok O et
        cases q with
        | cons hg hm ht r =>
          obtain ⟨h1, h2, h3⟩ := tyOfName_ok ht
          exact xIsi1 O.hK (hf _ _ ea).pe g m hg hm h1 h2 h3 (by rw [star_cons hs]; rfl) rfl
      · cases h
    · cases h
  · split at h
    · rename_i hs
      split at h
      · rename_i ia ts ea et
        cases h
        obtain ⟨q, l⟩ := cTys_ok O et
        exact xIsiT O.hK (hf _ _ ea).pe g m q (by rw [l]; exact hs.2) (by rw [star_cons hs.1]; rfl)
      · cases h
    · cases h
  · cases h
def attrOk : Expr → Bool
  | .Call _ [] [] _ => false
  | _ => true
theorem attr_ok {o : Expr} {name : Str} {env : PySem.Env} {w : Sem Value} (h : attrOk o = true) : attributeBase o name env w = w := by
  unfold attributeBase
  split
  · cases h
  · rfl
def mtOf (x : Str) : Option MT :=
  if x = "append" then some .append else if x = "extend" then some .extend else if x = "pop" then some .pop else if x = "split" then some .split else if x = "join" then some .join else if x = "isalnum" then some .isalnum else none

theorem mtOf_ok (O : XOk G κ C X) {m : MT} {o : Expr} {es : List Expr} {io : IE} {ies : IEs} {name : Str} {apos pos : Pos} (h : mtOf name = some m) (ho : PE X o (rE G NoE κ io)) (ha : PA X es (rEs G NoE κ ies)) (hal : ∀ pos, (backTo pos (starEach es X.env)).all (fun x => !x.1) = true) (hst : ∀ e r, es = e :: r → starEach (e :: r) X.env = (false, eval e X.env) :: starEach r X.env) (hal' : ∀ e r, es = e :: r → (backTo pos (starEach r X.env)).any (·.1) = false)
    (hn : es = [] → ies = .nil) (hl : es.length < 29) (hb : attrOk o = true) (hline : (apos.endLine == pos.line) = true) : PE X (.Call (.Attribute o name apos) es [] pos) (rE G NoE κ (.mt m io ies)) := by
  have key : ∀ {id : String} {f : D → List D → Hs → Res D}, (∀ x ds h, method m x ds h = f x ds h) → PlainAttrs (tyName (mtTy m)) → Slot (tyName (mtTy m)) name id → typeOf (.builtin id) = pure (.type "method_descriptor") → MtR X id (rMD G NoE f) → PE X (.Call (.Attribute o name apos) es [] pos) (rE G NoE κ (.mt m io ies)) := by
    intro id f hf pa slot hty hm
    cases es with
    | nil => rw [hn rfl]; exact xMt0 O.hK hf pa slot hty hm ho (attr_ok hb) hline
    | cons e r =>
      refine xMt O.hK hf pa slot hty hm ho ha (attr_ok hb) ?_ hline (hst e r rfl) (hal' e r rfl)
      have h1 := hal pos
      simp only [Bool.and_eq_true, decide_eq_true_eq]
      refine ⟨⟨h1, rfl⟩, ?_⟩
      simp only [List.length_nil, List.isEmpty_nil, if_true]
      omega
  unfold mtOf at h
  repeat' split at h
  all_goals first
    | (cases h; done)
    | (cases h; subst_vars; first
      | exact key (fun _ _ _ => rfl) PySem.F.plainAttrs_list PySem.F.slot_list_append rfl m_append
      | exact key (fun _ _ _ => rfl) PySem.F.plainAttrs_list PySem.F.slot_list_extend rfl m_extend
      | exact key (fun _ _ _ => rfl) PySem.F.plainAttrs_list PySem.F.slot_list_pop rfl m_pop
      | exact key (fun _ _ _ => rfl) PySem.F.plainAttrs_str PySem.F.slot_str_split rfl m_split
      | exact key (fun _ _ _ => rfl) PySem.F.plainAttrs_str PySem.F.slot_str_join rfl (m_join O.hK)
      | exact key (fun _ _ _ => rfl) PySem.F.plainAttrs_str PySem.F.slot_str_isalnum rfl m_isalnum)
def cCall (f : Expr → Option IE) (C : CT) (fn : Expr) (args : List Expr) (kws : List Keyword) (pos : Pos) : Option IE :=
  match kws with
  | _ :: _ => none
  | [] => match fn with
    | .Name x _ => if (x == ("__debug__" : Str)) = false ∧ gl C x = true then (match C.T.lookup x with
      | some (.fn g ar) => if args ≠ [] ∧ args.length = ar then (cEs f args).map (.call g) else none
      | some .free => if x = "isinstance" then cIsi f C args else (match biOf x with
        | some b => if args ≠ [] then (cEs f args).map (.bi b) else none
        | none => none)
      | _ => none) else none
    | .Attribute o name apos => if attrOk o = true ∧ (apos.endLine == pos.line) = true ∧ args.length < 29 then (match mtOf name, f o, cEs f args with
      | some m, some a, some b => some (.mt m a b)
      | _, _, _ => none) else none
    | _ => none
theorem cCall_ok (O : XOk G κ C X) {f : Expr → Option IE} {pos : Pos} (hf : ∀ e ie, f e = some ie → Ok G κ X e ie) {fn : Expr} {args : List Expr} {kws : List Keyword} {ie : IE} (h : cCall f C fn args kws pos = some ie) : PE X (.Call fn args kws pos) (rE G NoE κ ie) := by
  unfold cCall at h
  split at h
  · cases h
  · split at h
    · rename_i x p
      split at h
      · rename_i hx
        obtain ⟨hd, hg⟩ := hx
        split at h
        · rename_i g ar eT
          split at h
          · rename_i ha
            obtain ⟨ies, ei, rfl⟩ := Option.map_eq_some_iff.mp h
            obtain ⟨k, fa, fd, ps, l, m, F, r, kp, b⟩ := O.gfn x g ar eT
            obtain ⟨pa, al, il⟩ := cEs_ok hf ei
            cases args with
            | nil => exact absurd rfl ha.1
            | cons e es =>
              obtain ⟨hs, a', b', _, eb', rfl⟩ := cEs_star ei
              exact xCall (j := 0) F r (gl_ok O hg) m kp b hd pa (star_cons hs) (any_of_all ((cEs_ok hf eb').2.1 pos)) fun σ h ds h' ev => by rw [evEs_lenI ev, il, ha.2, l]
          · cases h
        · rename_i eT
          have fr : freeB C x = true := by unfold freeB; rw [hg, eT]; rfl
          split at h
          · rename_i e; subst e; exact cIsi_ok O hf fr h
          · split at h
            · rename_i b eb
              split at h
              · rename_i ha
                obtain ⟨ies, ei, rfl⟩ := Option.map_eq_some_iff.mp h
                obtain ⟨pa, al, il⟩ := cEs_ok hf ei
                obtain ⟨g', m⟩ := free_ok O fr
                cases args with
                | nil => exact absurd rfl ha
                | cons e es =>
                  obtain ⟨hs, a', b', _, eb', rfl⟩ := cEs_star ei
                  exact biOf_ok O eb g' m pa (star_cons hs) (any_of_all ((cEs_ok hf eb').2.1 pos))
              · cases h
            · cases h
        · cases h
      · cases h
    · split at h
      · rename_i hh
        split at h
        · rename_i m a b em ea eb
          cases h
          obtain ⟨pa, al, il⟩ := cEs_ok hf eb
          refine mtOf_ok O em (hf _ _ ea).pe pa al ?_ ?_ ?_ hh.2.2 hh.1 hh.2.1
          · rintro e r rfl
            exact star_cons (cEs_star eb).1
          · rintro e r rfl
            obtain ⟨_, a', b', _, eb', _⟩ := cEs_star eb
            exact any_of_all ((cEs_ok hf eb').2.1 _)
          · rintro rfl
            cases eb; rfl
        · cases h
      · cases h
    · cases h
/-! ### walked sources, targets -/
def isSet : Expr → Bool
  | .Set .. => true
  | _ => false
theorem notSet {e : Expr} {env : PySem.Env} (h : isSet e = false) : ∀ x, foldedSetIterable e env x = pure x := by
  intro x
  cases e <;> first | rfl | cases h
def isRange (C : CT) (e : Expr) : Option (List Expr) :=
  match e with
  | .Call (.Name x _) es [] _ => if x = "range" ∧ freeB C "range" = true then some es else none
  | _ => none
def cI (f : Expr → Option IE) (C : CT) (e : Expr) : Option II :=
  if isSet e = false then match isRange C e with
    | some [a] => if noStar a = true then (f a).map .rng1 else none
    | some [a, b] => if noStar a = true ∧ noStar b = true then (match f a, f b with
      | some x, some y => some (.rng2 x y)
      | _, _ => none) else none
    | some _ => none
    | none => (f e).map .seq
  else none
theorem isRange_ok (O : XOk G κ C X) {e : Expr} {es : List Expr} (h : isRange C e = some es) : ∃ p pos, e = .Call (.Name "range" p) es [] pos ∧ Gl X "range" ∧ X.mg "range" = none := by
  unfold isRange at h
  split at h
  · split at h
    · rename_i hx
      cases h
      obtain ⟨rfl, hf⟩ := hx
      exact ⟨_, _, rfl, free_ok O hf⟩
    · cases h
  · cases h
theorem cI_ok (O : XOk G κ C X) {f : Expr → Option IE} (hf : ∀ e ie, f e = some ie → Ok G κ X e ie) {tg e : Expr} {it : II} (h : cI f C e = some it) : PI X tg e (rI G NoE κ it) ∧ ∀ x, foldedSetIterable e X.env x = pure x := by
  unfold cI at h
  split at h
  · rename_i hs
    refine ⟨?_, notSet hs⟩
    split at h
    · rename_i a er
      obtain ⟨p, pos, rfl, g, m⟩ := isRange_ok O er
      split at h
      · rename_i ha
        obtain ⟨x, ex, rfl⟩ := Option.map_eq_some_iff.mp h
        exact xIR1 g m (hf _ _ ex).pe (by rw [star_cons ha]; rfl)
      · cases h
    · rename_i a b er
      obtain ⟨p, pos, rfl, g, m⟩ := isRange_ok O er
      split at h
      · rename_i ha
        split at h
        · rename_i x y ex ey
          cases h
          exact xIR2 g m (hf _ _ ex).pe (hf _ _ ey).pe (by rw [star_cons ha.1, star_cons ha.2]; rfl) (by rw [star_cons ha.2]; rfl)
        · cases h
      · cases h
    · cases h
    · obtain ⟨x, ex, rfl⟩ := Option.map_eq_some_iff.mp h
      exact xISeq O.hK (hf _ _ ex).pe
  · cases h
def locB (C : CT) (x : Str) : Bool :=
  match C.sc.names.lookup x with
  | some .local => true
  | some .cell => C.top
  | _ => false
theorem locB_ok (O : XOk G κ C X) {x : Str} (h : locB C x = true) : Loc X.env.scope x ∧ (X.fn x = true ∨ X.env.scope.names.lookup x = some .local) := by
  unfold locB at h
  rw [show Loc X.env.scope x = (X.env.scope.names.lookup x = some .local ∨ X.env.scope.names.lookup x = some .cell) from rfl, O.sc]
  split at h
  · rename_i e; exact ⟨.inl e, .inr e⟩
  · rename_i e; exact ⟨.inr e, .inl (O.fn h x)⟩
  · cases h
def cTs (g : Expr → Option IT) : List Expr → Option ITs
  | [] => some .nil
  | e :: es => if noStar e = true then (match g e, cTs g es with
    | some a, some b => some (.cons a b)
    | _, _ => none) else none
def cT (f : Expr → Option IE) (C : CT) : Nat → Expr → Option IT
  | 0, _ => none
  | n + 1, e => match e with
    | .Name x _ => if locB C x = true then (ixOf C.N x).map .nm else none
    | .Tuple es _ _ => (cTs (cT f C n) es).map .tp
    | .Subscript a b _ => if plainIx b = true then (match f a, f b with
      | some x, some y => some (.sub x y)
      | _, _ => none) else none
    | _ => none
theorem assign_cons {e : Expr} {es : List Expr} {env : PySem.Env} (h : noStar e = true) : assignEach (e :: es) env = (false, assign e env) :: assignEach es env := by
  cases e <;> first | rfl | cases h
theorem cTs_ok {g : Expr → Option IT} (hg : ∀ e t, g e = some t → PG X e (rT G NoE κ t)) : ∀ {es : List Expr} {ts : ITs}, cTs g es = some ts → PGs X es (rTs G NoE κ ts) ∧ (assignEach es X.env).length = tsLen ts ∧ (assignEach es X.env).findIdx? (·.1) = none
  | [], ts, h => by cases h; exact ⟨gsNil, rfl, rfl⟩
  | e :: es, ts, h => by
    unfold cTs at h
    split at h
    · rename_i hs
      split at h
      · rename_i a b ea eb
        cases h
        obtain ⟨p, l, q⟩ := cTs_ok hg eb
        exact ⟨gsCons (hg _ _ ea) p (by rw [assign_cons hs]; rfl), by rw [assign_cons hs]; simp [tsLen, l], by rw [assign_cons hs]; simpa [List.findIdx?_cons] using q⟩
      · cases h
    · cases h
theorem plain_assign {a b : Expr} {pos : Pos} {env : PySem.Env} (h : plainIx b = true) : ∀ v, assign (.Subscript a b pos) env v = (do
      let ov ← holding [v] (eval a env)
      let iv ← holding [v, ov] (eval b env)
      standAt pos
      holding [v, ov, iv] (setItem ov iv v)
      release [v, ov, iv] []) := by
  cases b <;> first | (cases h; done) | exact fun _ => rfl
theorem cT_ok (O : XOk G κ C X) {f : Expr → Option IE} (hf : ∀ e ie, f e = some ie → Ok G κ X e ie) : ∀ {n : Nat} {e : Expr} {t : IT}, cT f C n e = some t → PG X e (rT G NoE κ t)
  | 0, e, t, h => by cases h
  | n + 1, e, t, h => by
    unfold cT at h
    split at h
    · split at h
      · rename_i hl
        obtain ⟨i, ei, rfl⟩ := Option.map_eq_some_iff.mp h
        obtain ⟨a, b⟩ := locB_ok O hl
        exact gNm O.nd (by rw [O.hN]; exact ixOf_ok ei) a b
      · cases h
    · obtain ⟨ts, et, rfl⟩ := Option.map_eq_some_iff.mp h
      obtain ⟨a, b, c⟩ := cTs_ok (fun e t q => cT_ok O hf q) et
      exact gTp O.hK O.calm a b c
    · split at h
      · rename_i hp
        split at h
        · rename_i x y ex ey
          cases h
          exact gSb (by have := O.u; omega) (hf _ _ ex).pe (hf _ _ ey).pe (plain_assign hp)
        · cases h
      · cases h
    · cases h
/-! ### comprehensions -/
def ownOf (N : List Str) : List (Str × NameKind) → List (Str × Nat)
  | [] => []
  | (x, k) :: r => if k = .local ∨ k = .cell then (match ixOf N x with
    | some i => (x, i) :: ownOf N r
    | none => ownOf N r) else ownOf N r
def CT.blk (C : CT) (scope : Scope) : CT := { C with sc := relS scope C.sc, top := false }
theorem XOk.blk (O : XOk G κ C X) (scope : Scope) (s : Shared) (H : Hp) (A : Addr) (cl : List (Str × Addr)) (fp : List Addr) : XOk G κ (C.blk scope) (X.blk s H scope (compEnvC scope cl A X.env) fp) :=
  ⟨O.hK, O.hN, show relS scope X.env.scope = relS scope C.sc by rw [O.sc], O.nd, O.calm, O.u, (fun z => by cases z), O.gfn, O.gcon, O.gfree⟩
structure LcB (C : CT) (scope : Scope) (t : IT) : Prop where
  ok : blkC C.N C.sc scope (ownOf C.N scope.names) = true
  sl : (slots t).all (fun i => decide (i ∈ (ownOf C.N scope.names).map (·.2))) = true
instance {C : CT} {scope : Scope} {t : IT} : Decidable (LcB C scope t) := decidable_of_iff (blkC C.N C.sc scope (ownOf C.N scope.names) = true ∧ (slots t).all (fun i => decide (i ∈ (ownOf C.N scope.names).map (·.2))) = true) ⟨fun h => ⟨h.1, h.2⟩, fun h => ⟨h.1, h.2⟩⟩
def cIfs (f : Expr → Option IE) : List Expr → Option IEs
  | [] => some .nil
  | [a] => (f a).map fun x => .cons x .nil
  | _ => none
def cLc (f : CT → Expr → Option IE) (C : CT) (elt : Expr) (gens : List Comprehension) (scope : Scope) : Option IE :=
  match gens with
  | [⟨tg, iter, ifs, 0⟩] => (match cI (f C) C iter, cT (f (C.blk scope)) (C.blk scope) 6 tg, cIfs (f (C.blk scope)) ifs, f (C.blk scope) elt with
    | some it, some t, some cs, some e => if LcB C scope t then some (.lc ((ownOf C.N scope.names).map (·.2)) e t it cs) else none
    | _, _, _, _ => none)
  | _ => none
structure LcI (G : Gm) (κ : Orc) (X : Cx) (elt tg iter : Expr) (ifs : List Expr) (scope : Scope) (ow : List (Str × Nat)) (ie : IE) (it : II) (t : IT) (cs : IEs) : Prop where
  fs : ∀ x, foldedSetIterable iter X.env x = pure x
  hi : PI X tg iter (rI G NoE κ it)
  ok : BlkOk X.N X.env.scope scope ow
  sl : ∀ i ∈ slots t, i ∈ ow.map (·.2)
  hg : ∀ (s : Shared) (H : Hp) (C : Addr) (cl : List (Str × Addr)) (fp : List Addr), PG (X.blk s H scope (compEnvC scope cl C X.env) fp) tg (rT G NoE κ t)
  ht : ∀ (s : Shared) (H : Hp) (C : Addr) (cl : List (Str × Addr)) (fp : List Addr), PTs (X.blk s H scope (compEnvC scope cl C X.env) fp) ifs (rC G NoE κ cs)
  he : ∀ (s : Shared) (H : Hp) (C : Addr) (cl : List (Str × Addr)) (fp : List Addr), PE (X.blk s H scope (compEnvC scope cl C X.env) fp) elt (rE G NoE κ ie)
theorem cLc_inv (O : XOk G κ C X) {f : CT → Expr → Option IE} (hf : ∀ C X, XOk G κ C X → ∀ e ie, f C e = some ie → Ok G κ X e ie) {elt : Expr} {gens : List Comprehension} {scope : Scope} {ie : IE} (h : cLc f C elt gens scope = some ie) :
    ∃ tg iter ifs ow e it t cs, gens = [⟨tg, iter, ifs, 0⟩] ∧ ie = .lc (ow.map (·.2)) e t it cs ∧ LcI G κ X elt tg iter ifs scope ow e it t cs := by
  unfold cLc at h
  split at h
  · rename_i tg iter ifs
    split at h
    · rename_i it t cs e ei et ec ee
      split at h
      · rename_i hb
        cases h
        obtain ⟨p, q⟩ := cI_ok (tg := tg) O (hf C X O) ei
        refine ⟨tg, iter, ifs, _, e, it, t, cs, rfl, rfl, q, p, ?_, fun i hi => ?_, fun s H A cl fp => cT_ok (O.blk scope s H A cl fp) (hf _ _ (O.blk scope s H A cl fp)) et, fun s H A cl fp => ?_, fun s H A cl fp => (hf _ _ (O.blk scope s H A cl fp) _ _ ee).pe⟩
        · rw [O.hN, O.sc]; exact blkOk_by hb.ok
        · exact of_decide_eq_true (List.all_eq_true.mp hb.sl i hi)
        · unfold cIfs at ec
          split at ec
          · cases ec; exact cNil
          · obtain ⟨x, ex, rfl⟩ := Option.map_eq_some_iff.mp ec
            exact cOne (hf _ _ (O.blk scope s H A cl fp) _ _ ex).pt
          · cases ec
      · cases h
    · cases h
  · cases h
theorem cLc_ok (O : XOk G κ C X) {f : CT → Expr → Option IE} (hf : ∀ C X, XOk G κ C X → ∀ e ie, f C e = some ie → Ok G κ X e ie) {elt : Expr} {gens : List Comprehension} {scope : Scope} {pos : Pos} {ie : IE} (h : cLc f C elt gens scope = some ie) : PE X (.ListComp elt gens scope pos) (rE G NoE κ ie) := by
  obtain ⟨tg, iter, ifs, ow, e, it, t, cs, rfl, rfl, I⟩ := cLc_inv O hf h
  exact PEm (pe_lc O.calm O.nd I.hi I.ok I.hg I.ht I.he I.fs) fun σ H Q r => xLc O.calm O.nd I.hi I.ok I.sl I.hg I.ht I.he r
/-! ### all of it -/
def stE (f : CT → Expr → Option IE) (C : CT) (e : Expr) : Option IE :=
  match e with
  | .Constant c _ _ => cConst c
  | .Name x _ => cName C x
  | .Tuple es _ _ => (cEs (f C) es).map .tup
  | .List es _ => (cEs (f C) es).map .lst
  | .Dict ks vs _ => cDict (f C) ks vs
  | .BinOp a op b _ => (match opOf op, f C a, f C b with
    | some o, some x, some y => some (.bin o x y)
    | _, _, _ => none)
  | .Compare a ops bs _ => cCmp (f C) a ops bs
  | .BoolOp _ [a] _ => f C a
  | .BoolOp .And (a :: b :: r) p => (match f C a, f C (.BoolOp .And (b :: r) p) with
    | some x, some y => some (.and x y)
    | _, _ => none)
  | .BoolOp .Or (a :: b :: r) p => (match f C a, f C (.BoolOp .Or (b :: r) p) with
    | some x, some y => some (.or x y)
    | _, _ => none)
  | .UnaryOp .Not a _ => (f C a).map .not
  | .UnaryOp .USub a _ => (f C a).map .neg
  | .IfExp c a b _ => (match f C c, f C a, f C b with
    | some x, some y, some z => some (.ite x y z)
    | _, _, _ => none)
  | .Subscript a b _ => cSub (f C) a b
  | .Call fn args kws pos => cCall (f C) C fn args kws pos
  | .ListComp elt gens scope _ => cLc f C elt gens scope
  | _ => none
theorem Ok.any (O : XOk G κ C X) {e : Expr} {ie : IE} (p : PE X e (rE G NoE κ ie)) (he : ∀ whole, isTrue e X.env whole = (do let v ← whole; standAt e.pos; holding [v] (truthy v))) (h : ∀ op vs pos, e ≠ .BoolOp op vs pos) : Ok G κ X e ie := ⟨p, tAny_ O.hK p he, fun _ _ _ z => absurd z (h _ _ _)⟩
theorem stE_ok {f : CT → Expr → Option IE} (hf : ∀ C X, XOk G κ C X → ∀ e ie, f C e = some ie → Ok G κ X e ie) (O : XOk G κ C X) {e : Expr} {ie : IE} (h : stE f C e = some ie) : Ok G κ X e ie := by
  have hC := hf C X O
  unfold stE at h
  split at h
  · exact cConst_ok O h
  · exact .any O (cName_ok O h) (fun _ => rfl) (fun _ _ _ z => by cases z)
  · obtain ⟨ies, ei, rfl⟩ := Option.map_eq_some_iff.mp h
    exact .any O (xTup (cEs_ok hC ei).1) (fun _ => rfl) (fun _ _ _ z => by cases z)
  · obtain ⟨ies, ei, rfl⟩ := Option.map_eq_some_iff.mp h
    exact .any O (xLst (cEs_ok hC ei).1) (fun _ => rfl) (fun _ _ _ z => by cases z)
  · exact .any O (cDict_ok hC h) (fun _ => rfl) (fun _ _ _ z => by cases z)
  · split at h
    · rename_i o x y eo ex ey
      cases h
      exact .any O (xBin O.hK eo (hC _ _ ex).pe (hC _ _ ey).pe) (fun _ => rfl) (fun _ _ _ z => by cases z)
    · cases h
  · exact cCmp_ok O hC h
  · rename_i op a p
    cases op with
    | And => exact .pws (xAnd1 (hC _ _ h).pe) (wAnd1 (hC _ _ h).pt)
    | Or => exact .pws (xAnd1 (hC _ _ h).pe) (wOr1 (hC _ _ h).pt)
  · split at h
    · rename_i x y ex ey
      cases h
      exact .pws (xAnd O.hK (hC _ _ ex).pe (hC _ _ ey).pe) (wAnd (hC _ _ ex).pt ((hC _ _ ey).pw _ _ _ rfl))
    · cases h
  · split at h
    · rename_i x y ex ey
      cases h
      exact .pws (xOr O.hK (hC _ _ ex).pe (hC _ _ ey).pe) (wOr (hC _ _ ex).pt ((hC _ _ ey).pw _ _ _ rfl))
    · cases h
  · obtain ⟨x, ex, rfl⟩ := Option.map_eq_some_iff.mp h
    exact ⟨xNot O.hK (hC _ _ ex).pe, tNot_ (hC _ _ ex).pt, fun _ _ _ z => by cases z⟩
  · obtain ⟨x, ex, rfl⟩ := Option.map_eq_some_iff.mp h
    exact .any O (xNeg (hC _ _ ex).pe) (fun _ => rfl) (fun _ _ _ z => by cases z)
  · split at h
    · rename_i x y z ex ey ez
      cases h
      exact ⟨xIte (hC _ _ ex).pt (hC _ _ ey).pe (hC _ _ ez).pe, tIte (hC _ _ ex).pt (hC _ _ ey).pt (hC _ _ ez).pt, fun _ _ _ z => by cases z⟩
    · cases h
  · exact .any O (cSub_ok O hC h) (fun _ => rfl) (fun _ _ _ z => by cases z)
  · exact .any O (cCall_ok O hC h) (fun _ => rfl) (fun _ _ _ z => by cases z)
  · exact .any O (cLc_ok O hf h) (fun _ => rfl) (fun _ _ _ z => by cases z)
  · cases h
def cE : Nat → CT → Expr → Option IE
  | 0, _, _ => none
  | n + 1, C, e => stE (cE n) C e
theorem cE_ok : ∀ {n : Nat} {C : CT} {X : Cx}, XOk G κ C X → ∀ e ie, cE n C e = some ie → Ok G κ X e ie
  | 0, C, X, O, e, ie, h => by cases h
  | n + 1, C, X, O, e, ie, h => stE_ok (fun C X O => cE_ok O) O h
end
end MI
end

section
set_option Elab.async false
set_option linter.all false
set_option maxRecDepth 100000
set_option maxHeartbeats 1000000
/-! MI13: from the program's statements to MI1's, by a function, with its proof. -/
namespace MI
open PySem PySem.Spec PyProof.Rows L2
/-! ### which tuple assignments store in another order -/
theorem swp_fold {ts vs : List Expr} {k1 k2 : Nat} {p1 p2 : Pos} {env : PySem.Env} (h : vs.all (foldedForSure 8) = true) : swappedStores [.Tuple ts k1 p1] (.Tuple vs k2 p2) env = pure none := by
  unfold swappedStores
  simp only [h, if_true]
  split <;> first | rfl | (split <;> first | rfl | (split <;> rfl))
theorem swp_len {ts vs : List Expr} {k1 k2 : Nat} {p1 p2 : Pos} {env : PySem.Env} (h : (ts.length == 2 || ts.length == 3) = false) : swappedStores [.Tuple ts k1 p1] (.Tuple vs k2 p2) env = pure none := by
  unfold swappedStores
  simp only [h]
  rfl
theorem any_star : ∀ {vs : List Expr}, vs.all noStar = true → (vs.any fun | .Starred .. => true | _ => false) = false
  | [], _ => rfl
  | e :: es, h => by
    simp only [List.all_cons, Bool.and_eq_true] at h
    rw [List.any_cons, any_star h.2, Bool.or_false]
    have h1 := h.1
    cases e <;> first | rfl | (cases h1; done)
theorem blockKind_fn {env : PySem.Env} (hb : env.scope.kind = .function) : env.blockKind = .function := by unfold Env.blockKind; rw [hb]; rfl
theorem swp_go {ts vs : List Expr} {k1 k2 : Nat} {p1 p2 : Pos} {env : PySem.Env} {ns : List Str} (hb : env.scope.kind = .function) (hs : vs.all noStar = true) (hf : vs.all (foldedForSure 8) = false) (hc : vs.all (constantsAlone 8) = false) (hl : (ts.length == 2 || ts.length == 3) = true) (hv : vs.length = ts.length)
    (hn : (ts.filterMap fun
      | .Name id pos => if env.kindOf id == some .local && pos.line == ((ts.head?.map (·.pos.line)).getD 0) then some id else none
      | _ => none) = ns) (hns : ns.length = ts.length) (hd : ns.eraseDups.length = ns.length) : swappedStores [.Tuple ts k1 p1] (.Tuple vs k2 p2) env = pure (some ns) := by
  subst hn
  unfold swappedStores
  dsimp only
  refine (if_neg ?_).trans ((if_neg ?_).trans ((if_neg ?_).trans ((if_neg ?_).trans ((if_neg ?_).trans rfl))))
  · rw [hl, hv, blockKind_fn hb]; simp
  · exact fun z => Bool.noConfusion ((any_star hs).symm.trans z)
  · intro z
    rw [Bool.or_eq_true, bne_iff_ne, bne_iff_ne] at z
    exact z.elim (fun q => q hns) (fun q => q hd)
  · rw [hf]; decide
  · rw [hc]; decide
theorem swp_2 {x y : Str} {a b : Expr} {k1 k2 : Nat} {px py p1 p2 : Pos} {env : PySem.Env} (hb : env.scope.kind = .function) (hx : env.scope.names.lookup x = some .local) (hy : env.scope.names.lookup y = some .local) (hl : (py.line == px.line) = true) (hn : x ≠ y) (hs : [a, b].all noStar = true)
    (hf : [a, b].all (foldedForSure 8) = false) (hc : [a, b].all (constantsAlone 8) = false) : swappedStores [.Tuple [.Name x px, .Name y py] k1 p1] (.Tuple [a, b] k2 p2) env = pure (some [x, y]) := by
  have hx' : env.kindOf x = some .local := hx
  have hy' : env.kindOf y = some .local := hy
  have hl2 : py.line = px.line := by simpa using hl
  have ne' : (y == x) = false := by simpa using fun e => hn e.symm
  refine swp_go hb hs hf hc rfl rfl ?_ rfl ?_
  · simp [hx', hy', hl2, Expr.pos]
  · simp [List.eraseDups_cons, List.filter, ne']
theorem swp_3 {x y z : Str} {a b c : Expr} {k1 k2 : Nat} {px py pz p1 p2 : Pos} {env : PySem.Env} (hb : env.scope.kind = .function) (hx : env.scope.names.lookup x = some .local) (hy : env.scope.names.lookup y = some .local) (hz : env.scope.names.lookup z = some .local) (hl : (py.line == px.line) = true) (hl' : (pz.line == px.line) = true) (hn : x ≠ y) (hn2 : x ≠ z) (hn3 : y ≠ z) (hs : [a, b, c].all noStar = true)
    (hf : [a, b, c].all (foldedForSure 8) = false) (hc : [a, b, c].all (constantsAlone 8) = false) : swappedStores [.Tuple [.Name x px, .Name y py, .Name z pz] k1 p1] (.Tuple [a, b, c] k2 p2) env = pure (some [x, y, z]) := by
  have hx' : env.kindOf x = some .local := hx
  have hy' : env.kindOf y = some .local := hy
  have hz' : env.kindOf z = some .local := hz
  have hl2 : py.line = px.line := by simpa using hl
  have hl3 : pz.line = px.line := by simpa using hl'
  have n1 : (y == x) = false := by simpa using fun e => hn e.symm
  have n2 : (z == x) = false := by simpa using fun e => hn2 e.symm
  have n3 : (z == y) = false := by simpa using fun e => hn3 e.symm
  refine swp_go hb hs hf hc rfl rfl ?_ rfl ?_
  · simp [hx', hy', hz', hl2, hl3, Expr.pos]
  · simp [List.eraseDups_cons, List.filter, n1, n2, n3]

section
variable {G : Gm} {κ : Orc} {C : CT} {X : Cx} {pos : Pos}
theorem iop_addD {E : XW} : PIp X .Add (r2D G E (augop .add)) := by
  intro pins s σ H u v uu vv Q I ru rv ⟨ι, x, y, h, S, dx, dy, p⟩
  unfold augop at p
  split at p
  · rw [dx.int_inv] at ru; rw [dy.int_inv] at rv
    exact iop_add pins s σ H _ _ uu vv Q I ru rv ⟨_, _, rfl, rfl, p.ok S .int⟩
  · exact absurd (by assumption : BO.add = BO.sub) (by decide)
  · split at p
    · rename_i hl
      obtain ⟨e1, s1⟩ := dx.str_inv; obtain ⟨e2, s2⟩ := dy.str_inv
      rw [e1] at ru; rw [e2] at rv
      refine iop_add_str pins s σ H _ _ uu vv Q I ru rv ⟨_, _, rfl, rfl, ?_, ?_⟩
      · rw [toStr_len, toStr_len, sizeLine_eq]; exact hl
      · rw [toStr_cat]; exact p.ok S (.str (s1.append s2 hl))
    · exact p.elim
  · exact p.elim
theorem iop_subD {E : XW} : PIp X .Sub (r2D G E (augop .sub)) := by
  intro pins s σ H u v uu vv Q I ru rv ⟨ι, x, y, h, S, dx, dy, p⟩
  cases x <;> cases y <;> first | exact p.elim | skip
  rw [dx.int_inv] at ru; rw [dy.int_inv] at rv
  exact iop_sub pins s σ H _ _ uu vv Q I ru rv ⟨_, _, rfl, rfl, p.ok S .int⟩
def auOf : Operator → Option BO
  | .Add => some .add
  | .Sub => some .sub
  | _ => none
theorem auOf_ok {op : Operator} {o : BO} {E : XW} (h : auOf op = some o) : PIp X op (r2D G E (augop o)) := by
  cases op <;> simp only [auOf, Option.some.injEq, reduceCtorEq] at h <;> subst h
  · exact iop_addD
  · exact iop_subD
theorem sAug {E : XW} {i : Nat} {x : Str} {e : Expr} {ie : IE} {op : Operator} {o : BO} {pos' : Pos} (hN : X.N.Nodup) (hi : X.N[i]? = some x) (hx : Loc X.env.scope x) (hf : X.fn x = true ∨ X.env.scope.names.lookup x = some .local) (ho : auOf op = some o) (he : PE X e (rE G E κ ie)) :
    PS X (.AugAssign (.Name x pos') op e pos) (rS G E κ (.aug i o ie)) :=
  PSm (ps_aug hN hi hx he (auOf_ok ho) hf) fun D τ H ⟨ι, σ, h, l, S, SE, p⟩ => by
    have p' : SW G E ι H (match σ[i]? with
      | some (some x) => SR.of (evE κ ie σ h) fun y h => SR.of (augop o x y h) fun z h => .nx (σ.set i (some z)) h
      | _ => .stuck) D := p
    split at p'
    · rename_i d hd
      obtain ⟨v, hv, dv⟩ := SE i d hd
      refine ⟨v, hv, ι, σ, h, l, S, SE, SW.seq p' fun y h1 ι1 H1 w n s dw q => ?_⟩
      exact ⟨ι1, d, y, h1, s, DV.next n _ _ dv, dw, SW.seq q fun z h2 ι2 H2 u n2 s2 du q2 => q2 ι2 H2 _ .refl s2 (by simp [l]) (SimE.set l (SE.next (n.trans n2)) du)⟩
    · exact p'.elim
theorem sSetLc {elt tg iter : Expr} {ifs : List Expr} {scope : Scope} {ow : List (Str × Nat)} {ie : IE} {it : II} {t : IT} {cs : IEs} {i : Nat} {y : Str} {py spos : Pos} (hc : X.calm = true) (hN : X.N.Nodup) (hy : X.N[i]? = some y) (hyl : X.env.scope.names.lookup y = some .local) (hsw : swapsWith (.ListComp elt [⟨tg, iter, ifs, 0⟩] scope pos) (some (.Name y py)) spos.line X.env = pure true)
    (I : LcI G κ X elt tg iter ifs scope ow ie it t cs) : PS X (.Assign [.Name y py] (.ListComp elt [⟨tg, iter, ifs, 0⟩] scope pos) spos) (rS G NoE κ (.asg (.nm i) (.lc (ow.map (·.2)) ie t it cs))) :=
  PSm (ps_setLc hc hN hy hyl hsw I.hi I.ok I.hg I.ht I.he I.fs) fun D τ H ⟨ι, σ, h, l, S, SE, p⟩ => by
    have p' : SW G NoE ι H (SR.of (evE κ (.lc (ow.map (·.2)) ie t it cs) σ h) fun d h => .nx (σ.set i (some d)) h) D := p
    have r : rE G NoE κ (.lc (ow.map (·.2)) ie t it cs) τ H (fun v H1 => gName i v τ H1 D.nx) :=
      ⟨ι, σ, h, l, S, SE, SW.seq p' fun d h1 ι1 H1 v n s dv q => q ι1 H1 _ .refl s (by simp [l]) (SimE.set l (SE.next n) dv)⟩
    exact xLc hc hN I.hi I.ok I.sl I.hg I.ht I.he r
/-! ### the function -/
def okVal : Expr → Bool
  | .ListComp .. => false
  | .SetComp .. => false
  | .DictComp .. => false
  | _ => true
theorem okVal_ok {a : Expr} {t : Option Expr} {n : Nat} {env : PySem.Env} (h : okVal a = true) : swapsWith a t n env = pure false := by
  cases a <;> first | (cases h; done) | rfl
theorem okVal_sole {a t : Expr} {n : Nat} {env : PySem.Env} (h : okVal a = true) : swapsWithSole [t] a n env = pure false := okVal_ok h
def plainAsg (F : CT → Expr → Option IE) (C : CT) (tg a : Expr) : Option IS :=
  if noStar tg = true then (match cT (F C) C 6 tg, F C a with
    | some t, some ie => some (.asg t ie)
    | _, _ => none) else none
theorem plainAsg_ok (O : XOk G κ C X) {F : CT → Expr → Option IE} (hF : ∀ C X, XOk G κ C X → ∀ e ie, F C e = some ie → Ok G κ X e ie) {tg a : Expr} {is : IS} (hv : swapsWithSole [tg] a pos.line X.env = pure false) (hw : swappedStores [tg] a X.env = pure none) (h : plainAsg F C tg a = some is) : PS X (.Assign [tg] a pos) (rS G NoE κ is) := by
  unfold plainAsg at h
  split at h
  · rename_i hs
    split at h
    · rename_i t ie et ea
      cases h
      exact sAsg (hF C X O _ _ ea).pe (cT_ok O (hF C X O) et) hv hw (by rw [assign_cons hs]; rfl)
    · cases h
  · cases h
def locL (C : CT) (x : Str) : Option Nat := if C.sc.names.lookup x = some .local then ixOf C.N x else none
theorem locL_ok (O : XOk G κ C X) {x : Str} {i : Nat} (h : locL C x = some i) : X.N[i]? = some x ∧ X.env.scope.names.lookup x = some .local := by
  unfold locL at h
  split at h
  · rename_i e
    exact ⟨by rw [O.hN]; exact ixOf_ok h, by rw [O.sc]; exact e⟩
  · cases h
def cPar (F : CT → Expr → Option IE) (C : CT) (ts vs : List Expr) : Option IS :=
  if vs.all noStar = true ∧ vs.all (foldedForSure 8) = false ∧ vs.all (constantsAlone 8) = false then
    match ts, vs with
    | [.Name x px, .Name y py], [a, b] => if x ≠ y ∧ (py.line == px.line) = true then (match locL C x, locL C y, cEs (F C) [a, b] with
      | some i, some j, some ies => if i ≠ j then some (.asg (.tp (.cons (.nm i) (.cons (.nm j) .nil))) (.tup ies)) else none
      | _, _, _ => none) else none
    | [.Name x px, .Name y py, .Name z pz], [a, b, c] => if x ≠ y ∧ x ≠ z ∧ y ≠ z ∧ (py.line == px.line) = true ∧ (pz.line == px.line) = true then (match locL C x, locL C y, locL C z, cEs (F C) [a, b, c] with
      | some i, some j, some k, some ies => if i ≠ j ∧ i ≠ k ∧ j ≠ k then some (.asg (.tp (.cons (.nm i) (.cons (.nm j) (.cons (.nm k) .nil)))) (.tup ies)) else none
      | _, _, _, _ => none) else none
    | _, _ => none
  else none
theorem cPar_ok (O : XOk G κ C X) (hk : X.env.scope.kind = .function) {F : CT → Expr → Option IE} (hF : ∀ C X, XOk G κ C X → ∀ e ie, F C e = some ie → Ok G κ X e ie) {ts vs : List Expr} {k1 k2 : Nat} {p1 p2 : Pos} {is : IS} (h : cPar F C ts vs = some is) : PS X (.Assign [.Tuple ts k1 p1] (.Tuple vs k2 p2) pos) (rS G NoE κ is) := by
  unfold cPar at h
  split at h
  · rename_i hh
    obtain ⟨h1, h2, h3⟩ := hh
    split at h
    · split at h
      · rename_i hx
        split at h
        · rename_i i j ies ei ej es
          split at h
          · rename_i hij
            cases h
            obtain ⟨a1, b1⟩ := locL_ok O ei
            obtain ⟨a2, b2⟩ := locL_ok O ej
            exact sPar2 O.calm O.nd a1 a2 hij b1 b2 (cEs_ok (hF C X O) es).1 (swp_2 hk b1 b2 hx.2 hx.1 h1 h2 h3) (okVal_sole rfl)
          · cases h
        · cases h
      · cases h
    · split at h
      · rename_i hx
        split at h
        · rename_i i j k ies ei ej ek es
          split at h
          · rename_i hij
            cases h
            obtain ⟨a1, b1⟩ := locL_ok O ei
            obtain ⟨a2, b2⟩ := locL_ok O ej
            obtain ⟨a3, b3⟩ := locL_ok O ek
            exact sPar3 O.calm O.nd a1 a2 a3 hij.1 hij.2.1 hij.2.2 b1 b2 b3 (cEs_ok (hF C X O) es).1 (swp_3 hk b1 b2 b3 hx.2.2.2.1 hx.2.2.2.2 hx.1 hx.2.1 hx.2.2.1 h1 h2 h3) (okVal_sole rfl)
          · cases h
        · cases h
      · cases h
    · cases h
  · cases h
def isTup : Expr → Bool
  | .Tuple .. => true
  | _ => false
def notTL : Expr → Bool
  | .Tuple .. => false
  | .List .. => false
  | _ => true
theorem swp_tg {tg a : Expr} {env : PySem.Env} (h : notTL tg = true ∨ isTup a = false) : swappedStores [tg] a env = pure none := by
  rcases h with h | h
  · cases tg <;> first | (cases h; done) | rfl
  · cases tg <;> cases a <;> first | (cases h; done) | rfl
def cAsg (F : CT → Expr → Option IE) (C : CT) (tg a : Expr) : Option IS :=
  match a with
  | .ListComp elt gens scope cpos => (match tg with
    | .Name y py => if (C.sc.names.lookup y == some .local && py.line == cpos.line && !(scope.names.any fun (n, k) => n == y && (k == .local || k == .cell))) = true then (match locL C y, cLc F C elt gens scope with
      | some i, some ie => some (.asg (.nm i) ie)
      | _, _ => none) else plainAsg F C tg a
    | _ => none)
  | .Tuple vs _ _ => (match tg with
    | .Tuple ts _ _ => if vs.all (foldedForSure 8) = true ∨ (ts.length == 2 || ts.length == 3) = false then plainAsg F C tg a else cPar F C ts vs
    | _ => if notTL tg = true then plainAsg F C tg a else none)
  | _ => if okVal a = true ∧ isTup a = false then plainAsg F C tg a else none
theorem cAsg_ok (O : XOk G κ C X) (hk : X.env.scope.kind = .function) {F : CT → Expr → Option IE} (hF : ∀ C X, XOk G κ C X → ∀ e ie, F C e = some ie → Ok G κ X e ie) {tg a : Expr} {is : IS} (h : cAsg F C tg a = some is) : PS X (.Assign [tg] a pos) (rS G NoE κ is) := by
  unfold cAsg at h
  split at h
  · split at h
    · rename_i y py
      split at h
      · rename_i hh
        split at h
        · rename_i i ie ei el
          cases h
          obtain ⟨a1, b1⟩ := locL_ok O ei
          obtain ⟨tg, iter, ifs, ow, e, it, t, cs, rfl, rfl, I⟩ := cLc_inv O hF el
          refine sSetLc O.calm O.nd a1 b1 ?_ I
          rw [← O.sc] at hh
          unfold swapsWith
          simp only [blockKind_fn hk]
          exact congrArg pure hh
        · cases h
      · rename_i hh
        refine plainAsg_ok O hF ?_ (swp_tg (.inl rfl)) h
        rw [← O.sc] at hh
        unfold swapsWithSole swapsWith
        simp only [blockKind_fn hk]
        exact congrArg pure (Bool.eq_false_iff.mpr hh)
    · cases h
  · split at h
    · split at h
      · rename_i hh
        refine plainAsg_ok O hF (okVal_sole rfl) ?_ h
        rcases hh with hh | hh
        · exact swp_fold hh
        · exact swp_len hh
      · exact cPar_ok O hk hF h
    · split at h
      · rename_i hn
        exact plainAsg_ok O hF (okVal_sole rfl) (swp_tg (.inl hn)) h
      · cases h
  · split at h
    · rename_i hn
      exact plainAsg_ok O hF (okVal_sole hn.1) (swp_tg (.inr hn.2)) h
    · cases h
def cSs (g : Stmt → Option IS) : List Stmt → Option ISs
  | [] => some .nil
  | s :: ss => match g s, cSs g ss with
    | some a, some b => some (.cons a b)
    | _, _ => none
theorem cSs_ok {g : Stmt → Option IS} (hg : ∀ s is, g s = some is → PS X s (rS G NoE κ is)) : ∀ {ss : List Stmt} {iss : ISs}, cSs g ss = some iss → PSs X ss (rSs G NoE κ iss)
  | [], iss, h => by cases h; exact ssNil
  | s :: ss, iss, h => by
    unfold cSs at h
    split at h
    · rename_i a b ea eb
      cases h
      exact ssCons (hg _ _ ea) (cSs_ok hg eb)
    · cases h
def cS (F : CT → Expr → Option IE) (C : CT) : Nat → Stmt → Option IS
  | 0, _ => none
  | n + 1, st => match st with
    | .Expr a _ => if okVal a = true then (F C a).map .ex else none
    | .Assign [tg] a _ => cAsg F C tg a
    | .AugAssign (.Name x _) op e _ => if locB C x = true then (match ixOf C.N x, auOf op, F C e with
      | some i, some o, some ie => some (.aug i o ie)
      | _, _, _ => none) else none
    | .If c a b _ => (match F C c, cSs (cS F C n) a, cSs (cS F C n) b with
      | some x, some y, some z => some (.iff x y z)
      | _, _, _ => none)
    | .While c b [] _ => (match F C c, cSs (cS F C n) b with
      | some x, some y => some (.whl x y)
      | _, _ => none)
    | .For tg iter b [] _ => (match cI (F C) C iter, cT (F C) C 6 tg, cSs (cS F C n) b with
      | some it, some t, some y => some (.for_ t it y)
      | _, _, _ => none)
    | .Return (some a) _ => (F C a).map .ret
    | .Return none _ => some .retN
    | .Break _ => some .brk
    | .Continue _ => some .cnt
    | .Pass _ => some .pass
    | _ => none
theorem cS_ok (O : XOk G κ C X) (hk : X.env.scope.kind = .function) (hκ : κ.it = itω) (hp : PassesOwn (model X.prog X.w) X.A X.env X.xe) {F : CT → Expr → Option IE} (hF : ∀ C X, XOk G κ C X → ∀ e ie, F C e = some ie → Ok G κ X e ie) : ∀ {n : Nat} {s : Stmt} {is : IS}, cS F C n s = some is → PS X s (rS G NoE κ is)
  | 0, s, is, h => by cases h
  | n + 1, s, is, h => by
    have ih : ∀ s is, cS F C n s = some is → PS X s (rS G NoE κ is) := fun s is q => cS_ok O hk hκ hp hF q
    have hC := hF C X O
    unfold cS at h
    split at h
    · split at h
      · rename_i hv
        obtain ⟨x, ex, rfl⟩ := Option.map_eq_some_iff.mp h
        exact sEx (hC _ _ ex).pe (okVal_ok hv)
      · cases h
    · exact cAsg_ok O hk hF h
    · split at h
      · rename_i hl
        split at h
        · rename_i i o ie ei eo ee
          cases h
          obtain ⟨a, b⟩ := locB_ok O hl
          exact sAug O.nd (by rw [O.hN]; exact ixOf_ok ei) a b eo (hC _ _ ee).pe
        · cases h
      · cases h
    · split at h
      · rename_i x y z ex ey ez
        cases h
        exact sIf (hC _ _ ex).pt (cSs_ok ih ey) (cSs_ok ih ez)
      · cases h
    · split at h
      · rename_i x y ex ey
        cases h
        exact sWhl hκ hp (hC _ _ ex).pt (cSs_ok ih ey)
      · cases h
    · split at h
      · rename_i it t y ei et ey
        cases h
        obtain ⟨p, q⟩ := cI_ok O hC ei
        exact sFor hp O.calm p (cT_ok O hC et) (cSs_ok ih ey) q
      · cases h
    · obtain ⟨x, ex, rfl⟩ := Option.map_eq_some_iff.mp h
      exact sRet (hC _ _ ex).pe
    · cases h; exact sRetN
    · cases h; exact sBrk
    · cases h; exact sCnt
    · cases h; exact sPass
    · cases h
end
end MI
end

section
set_option Elab.async false
set_option linter.all false
set_option maxRecDepth 100000
set_option maxHeartbeats 1000000
/-! MI14: the whole program: every function does what MI1's run says; the head's facts. -/
namespace MI
open PySem PySem.Spec PyProof.Rows L2
/-! ### a module's constants, checked -/
def sokL (x : S) : Bool := decide (x.length ≤ L) && x.all fun c => decide (c < 1114112)
theorem sokL_ok {x : S} (h : sokL x = true) : SOk x := by
  unfold sokL at h
  simp only [Bool.and_eq_true, decide_eq_true_eq, List.all_eq_true] at h
  exact h
mutual
def datB (K : PySem.W.Frag) : D → Value → Bool
  | .non, u => match u with
    | .none => true
    | _ => false
  | .bl a, u => match u with
    | .bool b => a == b
    | _ => false
  | .int i, u => match u with
    | .int j _ => decide (i = j)
    | _ => false
  | .str x, u => match u with
    | .str y _ => decide (y.cps.toList = x) && sokL x
    | _ => false
  | .tup ds, u => match u with
    | .ref a => (match K.lookup a with
      | some o => decide (o.cls = .type "tuple") && (match o.data with
        | .seq its _ => decide (its.size ≤ sizeLine) && datsB K ds its.toList
        | _ => false)
      | none => false)
    | _ => false
  | .lst ds, u => match u with
    | .ref a => (match K.lookup a with
      | some o => decide (o.cls = .type "list") && (decide (o.dict = none) && (match o.data with
        | .seq its _ => decide (its.size ≤ sizeLine) && datsB K ds its.toList
        | _ => false))
      | none => false)
    | _ => false
  | _, _ => false
def datsB (K : PySem.W.Frag) : List D → List Value → Bool
  | [], us => us.isEmpty
  | d :: ds, us => match us with
    | u :: us => datB K d u && datsB K ds us
    | [] => false
end
mutual
theorem datB_ok {G : Gm} : ∀ {d : D} {u : Value}, datB G.K d u = true → ∃ v, RelV v u ∧ ∀ ι H, DV G H ι d v
  | .non, u, h => by
    unfold datB at h
    split at h
    · exact ⟨.non, rfl, fun _ _ => DV.non⟩
    · cases h
  | .bl a, u, h => by
    unfold datB at h
    split at h
    · rw [← eq_of_beq h]; exact ⟨.bl a, rfl, fun _ _ => DV.bl⟩
    · cases h
  | .int a, u, h => by
    unfold datB at h
    split at h
    · rw [← of_decide_eq_true h]; exact ⟨.int a, ⟨_, rfl⟩, fun _ _ => DV.int⟩
    · cases h
  | .str x, u, h => by
    unfold datB at h
    split at h
    · rename_i y t
      rw [Bool.and_eq_true] at h
      have e := of_decide_eq_true h.1
      subst e
      exact ⟨.str (toStr y.cps.toList), ⟨t, by rw [toStr_of]⟩, fun _ _ => DV.str (sokL_ok h.2)⟩
    · cases h
  | .tup ds, u, h => by
    unfold datB at h
    split at h
    · rename_i a
      split at h
      · rename_i o eo
        rw [Bool.and_eq_true] at h
        obtain ⟨h1, h2⟩ := h
        split at h2
        · rename_i its n ed
          rw [Bool.and_eq_true] at h2
          obtain ⟨vs, r, f⟩ := datsB_ok h2.2
          refine ⟨.ref a, rfl, fun ι H => ⟨a, vs, rfl, .inr ⟨o, its, n, eo, of_decide_eq_true h1, ed, of_decide_eq_true h2.1, r⟩, ?_, f ι H⟩⟩
          have := of_decide_eq_true h2.1
          rw [sizeLine_eq] at this
          rw [(f ι H).length, r.length, Array.length_toList]
          exact this
        · cases h2
      · cases h
    · cases h
  | .lst ds, u, h => by
    unfold datB at h
    split at h
    · rename_i a
      split at h
      · rename_i o eo
        rw [Bool.and_eq_true, Bool.and_eq_true] at h
        obtain ⟨h1, h3, h2⟩ := h
        split at h2
        · rename_i its n ed
          rw [Bool.and_eq_true] at h2
          obtain ⟨vs, r, f⟩ := datsB_ok h2.2
          refine ⟨.ref a, rfl, fun ι H => ⟨a, vs, rfl, .inr ⟨o, its, n, eo, of_decide_eq_true h1, of_decide_eq_true h3, ed, of_decide_eq_true h2.1, r⟩, ?_, f ι H⟩⟩
          have := of_decide_eq_true h2.1
          rw [sizeLine_eq] at this
          rw [(f ι H).length, r.length, Array.length_toList]
          exact this
        · cases h2
      · cases h
    · cases h
  | .ref n, u, h => by unfold datB at h; cases h
  | .fn n, u, h => by unfold datB at h; cases h
  | .cls n, u, h => by unfold datB at h; cases h
  | .ty n, u, h => by unfold datB at h; cases h
theorem datsB_ok {G : Gm} : ∀ {ds : List D} {us : List Value}, datsB G.K ds us = true → ∃ vs, Vals vs us ∧ ∀ ι H, DVs G H ι ds vs
  | [], us, h => by
    unfold datsB at h
    rw [List.isEmpty_iff] at h
    subst h
    exact ⟨[], .nil, fun _ _ => DVs.nil⟩
  | d :: ds, us, h => by
    unfold datsB at h
    split at h
    · rw [Bool.and_eq_true] at h
      obtain ⟨v, r, f⟩ := datB_ok h.1
      obtain ⟨vs, rs, fs⟩ := datsB_ok h.2
      exact ⟨v :: vs, .cons r rs, fun ι H => DVs.cons (f ι H) (fs ι H)⟩
    · cases h
end
abbrev CsT := List (Str × D)
def chkC (K : PySem.W.Frag) (q : Str × D) : Bool := match PySem.W.nsIn K mainGlobals q.1 with
  | some (some u) => datB K q.2 u
  | _ => false
theorem chkC_ok {G : Gm} {h : Heap} {mg : Str → Option Value} {x : Str} {d : D} (X : G.K.In h) (n : h.Ns mainGlobals mg) (c : chkC G.K (x, d) = true) : ∃ v u, mg x = some u ∧ RelV v u ∧ ∀ ι H, DV G H ι d v := by
  unfold chkC at c
  split at c
  · rename_i u e
    obtain ⟨v, r, f⟩ := datB_ok (G := G) c
    exact ⟨v, u, PySem.W.mg_of X n e, r, f⟩
  · cases c
/-! ### the hook -/
abbrev AlC : Type := He.AlD × Bool
def obsC (fa : List He.Fa) (fn : List He.DefD) (cs : CsT) (K : PySem.W.Frag) : AlC := (He.obsD fa fn K, cs.all (chkC K))
def valC (fn : List He.DefD) : AlC := (He.valD fn, true)
def SaysC (fa : List He.Fa) (fn : List He.DefD) (cs : CsT) (K : PySem.W.Frag) : Prop := obsC fa fn cs K = valC fn
def obsCG (n : Nat) (fa : List He.Fa) (fn : List He.DefD) (cs : CsT) (g : Addr → Option Obj) : AlC := obsC fa fn cs (He.frG g (He.asD g n))
def hookC (n : Nat) (fa : List He.Fa) (fn : List He.DefD) (cs : CsT) : PySem.W.Hook where
  α := AlC
  obs := fun s => obsCG n fa fn cs s.heap.get?
  val := fun _ => valC fn
  says := fun _ h => ∃ K : PySem.W.Frag, K.In h ∧ SaysC fa fn cs K
  of := fun _ _ e => ⟨_, He.frG_in, e⟩
  keeps := fun _ _ _ ⟨K, hK, c⟩ k => ⟨K, PySem.W.Frag.In.keeps hK k, c⟩
theorem obsCG_eq {n : Nat} {fa : List He.Fa} {fn : List He.DefD} {cs : CsT} {g : Addr → Option Obj} {s : Shared} (h : ∀ a, g a = s.heap.get? a) : obsCG n fa fn cs g = (hookC n fa fn cs).obs s := by
  have e : g = s.heap.get? := funext h
  rw [e] <;> rfl
theorem SaysC.d {fa : List He.Fa} {fn : List He.DefD} {cs : CsT} {K : PySem.W.Frag} (c : SaysC fa fn cs K) : He.SaysD fa fn K := congrArg (fun z : AlC => z.1) c
theorem SaysC.con {fa : List He.Fa} {fn : List He.DefD} {cs : CsT} {K : PySem.W.Frag} (c : SaysC fa fn cs K) {q : Str × D} (h : q ∈ cs) : chkC K q = true := List.all_eq_true.mp (show cs.all (chkC K) = true from congrArg (fun z : AlC => z.2) c) q h
/-! ### the program -/
structure FD where
  d : He.DefD
  N : List Str
  ps : List Str
def FD.ct (T : List (Str × Gd)) (D : FD) : CT := ⟨D.N, D.d.scope, T, true⟩
def FD.comp (T : List (Str × Gd)) (D : FD) : Option ISs := cSs (cS (cE 60) (D.ct T) 60) D.d.body
def fnScopeB (N P : List Str) (sc : Scope) : Bool :=
  (match sc.kind with | .function => true | _ => false) && !sc.isCoroutine && !sc.isGenerator && decide N.Nodup && decide (N.take P.length = P) && (P.all fun x => decide (sc.names.lookup x = some .local ∨ sc.names.lookup x = some .cell)) && (sc.names.all fun y => decide (y.2 ≠ .free))
theorem fnScopeB_ok {N P : List Str} {sc : Scope} (h : fnScopeB N P sc = true) : FnScope N P sc := by
  unfold fnScopeB at h
  simp only [Bool.and_eq_true, List.all_eq_true, decide_eq_true_eq, Bool.not_eq_true'] at h
  obtain ⟨⟨⟨⟨⟨⟨h1, h2⟩, h3⟩, h4⟩, h5⟩, h6⟩, h7⟩ := h
  refine ⟨?_, h2, h3, h4, h5, h6, h7⟩
  split at h1
  · assumption
  · cases h1
structure PF (pg : Program) (w : World) (K : PySem.W.Frag) (mg : Str → Option Value) (base : Heap) (T : List (Str × Gd)) (FS : List FD) (P : Prg) : Prop where
  len : P.length = FS.length
  sc : ∀ D ∈ FS, FnScope D.N D.ps D.d.scope
  fns : ∀ D ∈ FS, mg D.d.name = some (.ref (He.ga K D.d.name)) ∧ ∃ fd, FunD K D.d.name D.d.qual D.d.params D.d.body D.d.scope [] [] (He.ga K D.d.name) fd
  bnd : ∀ D ∈ FS, ∀ (kV doc pm : Value) (an : Option Addr) (cdv ct : Value) (us : List Value), us.length = D.ps.length → bindArgs (PySem.W.fnOf D.d.name D.d.qual D.d.params D.d.body D.d.scope .none kV doc pm an cdv ct) ⟨us, []⟩ = pure (D.ps.zip us)
  code : ∀ (f : Nat) (D : FD), FS[f]? = some D → (∃ b, D.comp T = some b ∧ P[f]? = some (.code ⟨D.ps.length, D.N.length, b⟩)) ∨
    ∃ g, P[f]? = some (.prim D.ps.length g) ∧ ∀ fd, FunD K D.d.name D.d.qual D.d.params D.d.body D.d.scope [] [] (He.ga K D.d.name) fd → FnOk pg w K mg base CX0 1 (He.ga K D.d.name) fd D.ps (spF ⟨K, fun _ => none, fun _ => none⟩ NoE D.ps.length g)
  tfn : ∀ x f ar, T.lookup x = some (.fn f ar) → ∃ D, FS[f]? = some D ∧ D.d.name = x ∧ D.ps.length = ar
  con : ∀ x d, T.lookup x = some (.con d) → ∃ v u, mg x = some u ∧ RelV v u ∧ ∀ ι H, DV ⟨K, fun _ => none, fun _ => none⟩ H ι d v
  free : ∀ x, T.lookup x = some .free → mg x = none
theorem start_sim {G : Gm} {H : Hp} {ι : List Addr} : ∀ {ds : List D} {vs : List V} (n : Nat), DVs G H ι ds vs → SimE G ι H (ds.map some ++ List.replicate n none) (vs.map some ++ List.replicate n none)
  | [], vs, n, h => by
    have e : vs = [] := h
    subst e
    intro i d hd
    simp only [List.map_nil, List.nil_append] at hd ⊢
    rw [List.getElem?_replicate] at hd
    split at hd <;> cases hd
  | d :: ds, vs, n, h => by
    obtain ⟨v, r, rfl, dv, dr⟩ := h
    intro i e he
    cases i with
    | zero =>
      simp only [List.map_cons, List.cons_append, List.getElem?_cons_zero, Option.some.injEq] at he ⊢
      subst he
      exact ⟨v, rfl, dv⟩
    | succ i =>
      simp only [List.map_cons, List.cons_append, List.getElem?_cons_succ] at he ⊢
      exact start_sim n dr i e he
theorem prog_ok {pg : Program} {w : World} {K : PySem.W.Frag} {mg : Str → Option Value} {base : Heap} {T : List (Str × Gd)} {FS : List FD} {P : Prg} (A : PF pg w K mg base T FS P) :
    ∀ (n f : Nat) (D : FD) (fd : FuncData), FS[f]? = some D → FunD K D.d.name D.d.qual D.d.params D.d.body D.d.scope [] [] (He.ga K D.d.name) fd → FnOk pg w K mg base CX0 n (He.ga K D.d.name) fd D.ps (spF ⟨K, fun _ => none, fun _ => none⟩ NoE D.ps.length (run P n f))
  | 0, f, D, fd, hD, F => by
    refine ⟨fun vs H Q E h => ?_, fun A outer s H args us vs Q E _ _ _ _ h => ?_⟩
    · obtain ⟨ι, ds, h', _, _, _, p⟩ := h; exact p.elim
    · obtain ⟨ι, ds, h', _, _, _, p⟩ := h; exact p.elim
  | n + 1, f, D, fd, hD, F => by
    rcases A.code f D hD with ⟨b, eb, eP⟩ | ⟨g, eP, ok⟩
    · have S := A.sc D (List.mem_of_getElem? hD)
      refine F.ok S (fun vs H Q E h => ?_) fun cdv B outer s H vs Q E hr h => ?_
      · obtain ⟨ι, ds, h', l, _, q, _⟩ := h
        rw [← q.length, l]
      · have O : XOk ⟨K, fun _ => none, fun _ => none⟩ ⟨run P n, itω⟩ (D.ct T) (cxOf CX0 pg w K mg base D.N D.d.qual D.d.scope (He.ga K D.d.name) cdv B outer s H E).nox := by
          refine ⟨rfl, rfl, rfl, S.nd, rfl, ?_, fun _ _ => rfl, fun x g ar e => ?_, A.con, A.free⟩
          · have h1 := hr.un
            show (B.deeper _).units + 65 < cLine
            omega
          · obtain ⟨D', e1, e2, e3⟩ := A.tfn x g ar e
            obtain ⟨m, fd', F'⟩ := A.fns D' (List.mem_of_getElem? e1)
            refine ⟨n, _, fd', D'.ps, e3, ?_, prog_ok A n g D' fd' e1 F', hr, F'.kp, F'.bindsN (A.bnd D' (List.mem_of_getElem? e1))⟩
            rw [← e2]; exact m
        have st := cSs_ok (fun s is q => cS_ok O S.kind rfl (fun _ _ h => h.elim) (fun C X O => cE_ok O) q) (show cSs (cS (cE 60) (D.ct T) 60) D.d.body = some b from eb)
        refine ⟨_, PSs.nox st, ?_⟩
        obtain ⟨ι, ds, h', l, Sh, q, p⟩ := h
        have hl : vs.length = ds.length := q.length.symm
        refine ⟨ι, ds.map some ++ List.replicate (D.N.length - D.ps.length) none, h', ?_, Sh, ?_, ?_⟩
        · unfold L2.start
          simp [hl, l]
        · have e : D.N.length - vs.length = D.N.length - D.ps.length := by rw [hl, l]
          unfold L2.start
          rw [e]
          exact start_sim _ q
        · have p' : PostD ⟨K, fun _ => none, fun _ => none⟩ ι H (match P[f]? with
            | some (.code fn) => callFn ⟨run P n, itω⟩ fn ds h'
            | some (.prim ar g) => if ds.length = ar then g ds h' else .stuck
            | none => .stuck) Q NoE := p
          rw [eP] at p'
          replace p' : PostD ⟨K, fun _ => none, fun _ => none⟩ ι H (if ds.length = D.ps.length then
            match exSs ⟨run P n, itω⟩ b (ds.map some ++ List.replicate (D.N.length - D.ps.length) none) h' with
            | .nx _ h => .ok .non h
            | .ret d h => .ok d h
            | .err x h => .err x h
            | _ => .stuck
            else .stuck) Q NoE := p'
          rw [if_pos l] at p'
          cases ev : exSs ⟨run P n, itω⟩ b (ds.map some ++ List.replicate (D.N.length - D.ps.length) none) h' with
          | nx σ2 h2 => rw [ev] at p'; exact fun ι2 H2 τ2 n2 s2 _ _ => p' ι2 H2 _ n2 s2 DV.non
          | ret d h2 => rw [ev] at p'; exact fun ι2 H2 v n2 s2 dv => p' ι2 H2 v n2 s2 dv
          | brk σ2 h2 => rw [ev] at p'; exact p'.elim
          | cnt σ2 h2 => rw [ev] at p'; exact p'.elim
          | err x h2 => rw [ev] at p'; exact p'
          | stuck => rw [ev] at p'; exact p'.elim
    · have h1 := (ok fd F).mono (show 1 ≤ n + 1 by omega)
      refine h1.imp fun vs H Q E h => ?_
      obtain ⟨ι, ds, h', l, Sh, q, p⟩ := h
      refine ⟨ι, ds, h', l, Sh, q, ?_⟩
      have p' : PostD ⟨K, fun _ => none, fun _ => none⟩ ι H (match P[f]? with
        | some (.code fn) => callFn ⟨run P n, itω⟩ fn ds h'
        | some (.prim ar g) => if ds.length = ar then g ds h' else .stuck
        | none => .stuck) Q NoE := p
      rw [eP] at p'
      replace p' : PostD ⟨K, fun _ => none, fun _ => none⟩ ι H (if ds.length = D.ps.length then g ds h' else .stuck) Q NoE := p'
      rw [if_pos l] at p'
      exact p'
end MI
end

section
set_option Elab.async false
set_option linter.all false
set_option maxRecDepth 100000
set_option maxHeartbeats 1000000
/-! MI15: a loop that replaces each sign of a written text by the sign between blanks. -/
namespace MI
open PySem PySem.Spec PyProof.Rows L2
section
variable {X : Cx} {pins : List (Addr × Obj)} {σ : L2.St} {H : Hp} {s : Shared}
/-- a local name has got a value: what is kept -/
theorem inv_local {i : Nat} {x : Str} {v : V} {u : Value} {m : Str → Option Value} {h' : Heap} {tk : Nat} (I : L2.Inv X pins σ H s) (hN : X.N.Nodup) (hi : X.N[i]? = some x) (hk : X.env.kindOf x = some .local) (r : RelV v u)
    (hn : s.heap.Ns X.env.locals m) (hm : ∀ (j : Nat) (y : Str) (w : V), X.N[j]? = some y → σ[j]? = some (some w) → Vis X.env.scope y → ∃ u, RelV w u ∧ Look X.env s.heap m y u)
    (hn' : h'.Ns X.env.locals (fun y => if y = x then some u else m y)) (hs : Heap.SameBut X.env.locals s.heap h') : L2.Inv X pins (σ.set i (some v)) H { s with heap := h', toks := tk } := by
  have hlt : i < σ.length := by rw [I.len]; exact (List.getElem?_eq_some_iff.mp hi).1
  have same : ∀ b, b ≠ X.env.locals → h'.get? b = s.heap.get? b := fun b hb => hs.2 b hb
  have far : ∀ {b o}, X.s_0.heap.get? b = some o → b ≠ X.env.locals := fun {b o} e => Nat.ne_of_lt (Nat.lt_of_lt_of_le (Heap.lt_size e) I.ok.above)
  obtain ⟨oL, _, _, hoL, _⟩ := id hn
  have ax := I.base
  refine { ok := I.ok, os := I.os, bare := I.bare, base := ⟨?_, ?_, ax.free, ?_, ax.tups, ax.frzs, ax.tbls⟩, loc := ⟨_, hn', ?_⟩, cell := ?_, free := I.free, freeC := I.freeC, pin := ?_, hok := ?_, len := by simpa using I.len }
  · exact fun b o e n hb hx => (same b (far e)).trans (ax.keep b o e n hb hx)
  · intro b o e n hb hx
    obtain ⟨sl, q⟩ := ax.slot b o e n hb hx
    exact ⟨sl, (same b (far e)).trans q⟩
  · intro b o e hx
    obtain ⟨o', q⟩ := ax.there b o e hx
    exact ⟨o', (same b (far e)).trans q⟩
  · intro j y w e1 e2 e3
    by_cases hj : j = i
    · subst hj
      have ey : y = x := Option.some.inj (e1.symm.trans hi)
      rw [List.getElem?_set_self hlt] at e2
      have ew : v = w := Option.some.inj (Option.some.inj e2)
      subst ey ew
      exact ⟨u, r, .inl ⟨hk, if_pos rfl⟩⟩
    · rw [List.getElem?_set_ne (Ne.symm hj)] at e2
      obtain ⟨u', r', q⟩ := hm j y w e1 e2 e3
      refine ⟨u', r', ?_⟩
      rcases q with ⟨k, e⟩ | ⟨k, c, e, z⟩
      · have ne : y ≠ x := fun e => hj (nodup_ix hN e1 (by rw [e]; exact hi))
        exact .inl ⟨k, (if_neg ne).trans e⟩
      · exact .inr ⟨k, c, e, z.sameBut hs (I.cne y c e)⟩
  · intro y c e
    obtain ⟨w, z⟩ := I.cell y c e
    exact ⟨w, z.sameBut hs (I.cne y c e)⟩
  · intro p hp
    obtain ⟨e, n, ne, nf, d⟩ := I.pin p hp
    exact ⟨(same p.1 ne).trans e, n, ne, nf, d⟩
  · intro b ob e
    refine (I.hok b ob e).stay (fun c w hc q => (same c ?_).trans q) (fun _ q => q) fun _ _ q => q
    rintro rfl
    rcases hc with rfl | hc
    · rw [I.free] at e; cases e
    · rw [I.free] at hc; cases hc
end
def rpl (c : Nat) (x : Str) : Str := Txt.replace x ⟨#[c]⟩ ⟨#[32, c, 32]⟩
def rplN (l : Array Nat) : Nat → Str → Str
  | 0, x => x
  | k + 1, x => rpl (l[k]?.getD 0) (rplN l k x)
theorem sp_cat1 (c : Nat) : (" " : Str) ++ (⟨#[c]⟩ : Str) = ⟨#[32, c]⟩ := by
  refine TL.ext_tl ?_
  rw [TL.tl_append]
  rfl
theorem sp_cat (c : Nat) : ((" " : Str) ++ (⟨#[c]⟩ : Str)) ++ (" " : Str) = ⟨#[32, c, 32]⟩ := by
  refine TL.ext_tl ?_
  rw [TL.tl_append, TL.tl_append]
  rfl
section
variable {X : Cx} {i j : Nat} {tx sg lit : Str} {p1 p2 p3 p4 p5 p6 p7 p8 p9 p10 p11 p12 p13 p14 : Pos} {k0 k1 k2 : Nat}
/-- text.replace(sign, ' ' + sign + ' '), the sign's token known -/
theorem repl_raw {pins : List (Addr × Obj)} {σ : L2.St} {H : Hp} {s : Shared} {m : Str → Option Value} {x : Str} {c : Nat} {t tt : Tok} {Q : Value → Shared → Prop} {E : Value → Shared → Prop} (I : L2.Inv X pins σ H s) (kt : X.env.kindOf tx = some .local) (ks : X.env.kindOf sg = some .local) (hn : s.heap.Ns X.env.locals m) (hx : m tx = some (.str x tt)) (hs : m sg = some (.str ⟨#[c]⟩ t)) (h0 : t ≠ 0) (ht : t < s.toks)
    (hl : x.length + (x.length + 1) * 3 ≤ 16777216) (hd1 : (tx == ("__debug__" : Str)) = false) (hd2 : (sg == ("__debug__" : Str)) = false) (hline : (p5.endLine == p12.line) = true) (q : ∀ t' k, s.toks ≤ k → Q (.str (rpl c x) t') { s with toks := k }) :
    wpAny (model X.prog X.w) X.A (eval (.Call (.Attribute (.Name tx p4) "replace" p5) [.Name sg p6, .BinOp (.BinOp (.Constant (.str " ") k1 p7) .Add (.Name sg p8) p9) .Add (.Constant (.str " ") k2 p10) p11] [] p12) X.env) Q E s := by
  refine PySem.Call_method2 rfl rfl hline (wpAny_Name (wpAny_loadName_local I.ok.kind kt hn hx ?_) hd1)
  refine ⟨"str", _, PySem.F.plainAttrs_str, PySem.F.slot_str_replace, PySem.F.type_str_replace, typeIs_str _ _ _, (fun _ e => nomatch e), Calls.callWith_builtin rfl (Calls.evalArgs_plain (Calls.spliced_cons ?_))⟩
  refine wpAny_Name (wpAny_loadName_local I.ok.kind ks hn hs (Calls.spliced_cons ?_)) hd2
  refine wpAny_BinOp (wpAny_BinOp (Calls.Constant_str (wpAny_Name (wpAny_loadName_local (s := { s with toks := s.toks + 1 }) I.ok.kind ks hn hs (PySem.P.add_str ?_)) hd2)))
  refine ⟨by rw [sp_cat1]; exact (by decide : 2 ≤ sizeLine), Calls.Constant_str (PySem.P.add_str ⟨by rw [sp_cat]; exact (by decide : 3 ≤ sizeLine), Calls.spliced_nil ?_⟩)⟩
  show wpAny _ _ (call (.builtin "str.replace") [.str x tt, .str ⟨#[c]⟩ t, .str (((" " : Str) ++ (⟨#[c]⟩ : Str)) ++ (" " : Str)) (s.toks + 1 + 1 + 1)]) _ _ { s with toks := s.toks + 1 + 1 + 1 + 1 }
  rw [sp_cat]
  refine wpAny_with_toks (n := s.toks) (by show s.toks ≤ s.toks + 1 + 1 + 1 + 1; omega) ?_
  exact PySem.SC.replace h0 (Nat.succ_ne_zero _) (Nat.ne_of_lt (Nat.lt_of_lt_of_le ht (Nat.le_add_right s.toks 3))) (by
    cases e : ((⟨#[c]⟩ : Str) == ⟨#[32, c, 32]⟩) with
    | false => rfl
    | true =>
      have := congrArg (fun z : Str => z.cps.size) (eq_of_beq e)
      cases this) hl fun t' k hk => q t' k hk
/-- the loop -/
theorem ps_repl (hp : PassesOwn (model X.prog X.w) X.A X.env X.xe) (hc : X.calm = true) (hN : X.N.Nodup) (hi : X.N[i]? = some tx) (hj : X.N[j]? = some sg) (hij : i ≠ j) (kt : X.env.scope.names.lookup tx = some .local) (ks : X.env.scope.names.lookup sg = some .local) (hlit : lit.cps.all (· < 128) = true)
    (hd1 : (tx == ("__debug__" : Str)) = false) (hd2 : (sg == ("__debug__" : Str)) = false) (hline : (p5.endLine == p12.line) = true) :
    PS X (.For (.Name sg p1) (.Constant (.str lit) k0 p2) [.Assign [.Name tx p3] (.Call (.Attribute (.Name tx p4) "replace" p5) [.Name sg p6, .BinOp (.BinOp (.Constant (.str " ") k1 p7) .Add (.Name sg p8) p9) .Add (.Constant (.str " ") k2 p10) p11] [] p12) p13] [] p14)
      (fun D τ H => ∃ x, τ[i]? = some (some (.str x)) ∧ (∀ k, k < lit.cps.size → (rplN lit.cps k x).length + ((rplN lit.cps k x).length + 1) * 3 ≤ 16777216) ∧ ∀ w, D.nx ((τ.set j w).set i (some (.str (rplN lit.cps lit.cps.size x)))) H) := by
  refine ⟨fun pins s σ H D I ⟨x, hx, hb, hD⟩ => ?_⟩
  refine wpAny_For (Calls.Constant_str (wpAny_pyIter_ascii hlit ?_)) (fun _ => rfl)
  have hit0 : ∃ it : Addr, it = s.heap.objs.size := ⟨_, rfl⟩
  obtain ⟨it, eit⟩ := hit0
  have I1 : L2.Inv X pins σ H { s with heap := s.heap.push { cls := .type "str_ascii_iterator", data := .fields #[.str lit s.toks, .int 0 0] }, toks := s.toks + 1 } := I.kept (t' := s.toks + 1) fun b o e => Heap.get?_push_of_some _ e
  have fp : FpOk X pins H it := by rw [eit]; exact I.fpOk (Nat.le_refl _) (I.hok.fresh (Nat.le_refl _))
  have st1 : Heap.IsStrIter (s.heap.push { cls := .type "str_ascii_iterator", data := .fields #[.str lit s.toks, .int 0 0] }) it "str_ascii_iterator" lit s.toks 0 := by
    rw [eit]; exact ⟨_, Heap.get?_push_size _ rfl, rfl, rfl⟩
  show codeAny (model X.prog X.w) X.A (.forLoop (.Name sg p1) (.ref s.heap.objs.size) _ [] X.env) _ { s with heap := s.heap.push { cls := .type "str_ascii_iterator", data := .fields #[.str lit s.toks, .int 0 0] }, toks := s.toks + 1 }
  rw [← eit]
  have hiσ : i < σ.length := (List.getElem?_eq_some_iff.mp hx).1
  refine codeAny_forLoop_any (fun n s' => ∃ k w, n + k = lit.cps.size ∧ 1 ≤ s'.toks ∧ L2.Inv X pins ((σ.set j w).set i (some (.str (rplN lit.cps k x)))) H s' ∧ s'.heap.IsStrIter it "str_ascii_iterator" lit s.toks k) ?_ lit.cps.size
    ⟨0, (σ[j]?).getD none, rfl, by show 1 ≤ s.toks + 1; omega, ?_, st1⟩
  · rintro n s3 ⟨k, w, hk, htk, I3, st3⟩
    obtain ⟨f0, f1, f2, f3, f4, f5⟩ := fp
    cases n with
    | zero =>
      have hx3 : lit.cps[k]? = none := Array.getElem?_eq_none (by omega)
      refine wpAny_passesOwn hp (wpAny_pyNext_ascii_end (I3.ok.hd hc) st3 hx3 fun h' eb => ?_)
      have I4 : L2.Inv X pins _ H { s3 with heap := h' } := I3.turned (t' := s3.toks) (fun b o hb e => eb b o hb e) f0 f1 f3 f4 f5
      have ek : k = lit.cps.size := by omega
      subst ek
      exact wpAny_execs_nil ⟨_, H, I4, hD w⟩
    | succ n =>
      have hk' : k < lit.cps.size := by omega
      have hx3 : lit.cps[k]? = some lit.cps[k] := Array.getElem?_eq_getElem hk'
      refine wpAny_passesOwn hp (wpAny_pyNext_ascii_item st3 hx3 fun h4 st4 sb4 => ?_)
      have I4 : L2.Inv X pins _ H { s3 with heap := h4, toks := s3.toks + 1 } := I3.turned (t' := s3.toks + 1) (fun b o hb e => (sb4.2 b hb).trans e) f0 f1 f3 f4 f5
      obtain ⟨o4, e4, c4, d4⟩ := id st4
      refine wpAny_passesOwn hp (go_of (s := { s3 with heap := h4, toks := s3.toks + 1 }) e4 c4 d4 (by decide) ?_)
      obtain ⟨m4, hn4, hl4⟩ := I4.loc
      have hcls : (X.env.scope.kind == .class || (X.env.scope.kind == .module && X.env.locals != X.env.globals)) = false := by rw [I.ok.kind]; rfl
      have hi3 : ((σ.set j w).set i (some (V.str (rplN lit.cps k x))))[i]? = some (some (V.str (rplN lit.cps k x))) := List.getElem?_set_self (by simpa using hiσ)
      have ne : tx ≠ sg := fun e => hij (nodup_ix hN hi (by rw [e]; exact hj))
      have htx : ∃ tt, m4 tx = some (.str (rplN lit.cps k x) tt) := by
        obtain ⟨u, ⟨tt, rfl⟩, q⟩ := hl4 i tx _ hi hi3 (.inl kt)
        rcases q with ⟨_, e⟩ | ⟨kk, _⟩
        · exact ⟨tt, e⟩
        · have kt' : X.env.kindOf tx = some .local := kt
          rcases kk with kk | kk <;> (rw [kt'] at kk; cases kk)
      obtain ⟨tt, htx⟩ := htx
      refine wpAny_passesOwn hp (wpAny_assign_Name (wpAny_storeName_local ks hn4 (fun h5 hn5 sb5 => ?_) hcls))
      have I5 := inv_local (tk := s3.toks + 1 + 1) I4 hN hj ks (v := .str ⟨#[lit.cps[k]]⟩) ⟨s3.toks, rfl⟩ hn4 hl4 hn5 sb5
      refine wpAny_passesOwn hp (wpAny_execs_cons (wpAny_Assign_Name (repl_raw (s := { s3 with heap := h5, toks := s3.toks + 1 + 1 }) I5 kt ks hn5 (by simp only [if_neg ne]; exact htx) (if_pos rfl) (Nat.pos_iff_ne_zero.mp htk) (Nat.lt_succ_of_lt (Nat.lt_succ_self _)) (hb k hk') hd1 hd2 hline fun t' tk ht => ?_)))
      refine wpAny_mono (PySem.wpAny_toks (store_ok2 (v := V.str (rpl lit.cps[k] (rplN lit.cps k x))) (u := .str (rpl lit.cps[k] (rplN lit.cps k x)) t') (Q := fun _ s2 => L2.Inv X pins ((σ.set j (some (.str ⟨#[lit.cps[k]]⟩))).set i (some (.str (rplN lit.cps (k + 1) x)))) H s2 ∧ s2.heap.IsStrIter it "str_ascii_iterator" lit s.toks (k + 1)) (I5.tok tk) hN hi (.inl kt) ⟨_, rfl⟩ (fun s2 I6 ⟨a, sb6, ha⟩ => ⟨?_, ?_⟩) (.inr kt))) (fun _ s2 q => ?_) fun _ _ z => z.2
      · have e1 : rplN lit.cps (k + 1) x = rpl lit.cps[k] (rplN lit.cps k x) := by
          show rpl (lit.cps[k]?.getD 0) _ = _
          rw [hx3]; rfl
        rw [e1]
        rw [List.set_comm _ _ hij, List.set_set, List.set_set] at I6
        exact I6
      · have nit : it ≠ a := by
          rcases ha with ha | ha
          · rw [ha]; exact f1
          · exact fun e => f4 _ _ ha e.symm
        exact ⟨o4, ((sb6.2 it nit).trans (sb5.2 it f1)).trans e4, c4, d4⟩
      · refine wpAny_execs_nil ⟨n, Nat.lt_succ_self n, k + 1, _, by omega, ?_, q.2.1, q.2.2⟩
        have h1 : tk ≤ s2.toks := q.1
        have h2 : s3.toks + 1 + 1 ≤ tk := ht
        omega
  · have e1 : σ.set j ((σ[j]?).getD none) = σ := by
      by_cases h : j < σ.length
      · rw [List.getElem?_eq_getElem h]; simp
      · exact List.set_eq_of_length_le (by omega)
    have e2 : σ.set i (some (V.str (rplN lit.cps 0 x))) = σ := by
      obtain ⟨h, e⟩ := List.getElem?_eq_some_iff.mp hx
      show σ.set i (some (V.str x)) = σ
      rw [← e]; simp
    rw [e1, e2]
    exact I1
end
end MI
end

section
set_option Elab.async false
set_option linter.all false
set_option maxRecDepth 100000
set_option maxHeartbeats 1000000
/-! MI16: a comprehension whose source is walked from one known state (the walk below is turned from HandS's rule for comprehensions); def _law_parted. -/
namespace MI
open PySem PySem.Spec PyProof.Rows L2
section
variable {X : Cx}
theorem lc_at {pins : List (Addr × Obj)} {s : Shared} {σ : L2.St} {H : Hp} {Q : VK} {elt tg iter : Expr} {ifs : List Expr} {scope : Scope} {own : List (Str × Nat)} {pos : Pos} {wi : TI} {g : TG} {tt : TT} {te : TE}
    (hc : X.calm = true) (hN : X.N.Nodup) (I : Inv X pins σ H s) (hx : ∀ R, wi σ H R → wpAny (model X.prog X.w) X.A (eval iter X.env) (fun v s1 => wpAny (model X.prog X.w) X.A (pyIter v) (PIE X pins σ tg R) X.xe s1) X.xe s) (ok : BlkOk X.N X.env.scope scope own)
    (hg : ∀ (s : Shared) (H : Hp) (C : Addr) (cl : List (Str × Addr)) (fp : List Addr), PG (X.blk s H scope (compEnvC scope cl C X.env) fp) tg g) (ht : ∀ (s : Shared) (H : Hp) (C : Addr) (cl : List (Str × Addr)) (fp : List Addr), PTs (X.blk s H scope (compEnvC scope cl C X.env) fp) ifs tt)
    (he : ∀ (s : Shared) (H : Hp) (C : Addr) (cl : List (Str × Addr)) (fp : List Addr), PE (X.blk s H scope (compEnvC scope cl C X.env) fp) elt te) (hs : ∀ x, foldedSetIterable iter X.env x = pure x)
    (h : tLc wi g tt te (own.map (·.2)) σ H Q) : wpAny (model X.prog X.w) X.A (eval (.ListComp elt [⟨tg, iter, ifs, 0⟩] scope pos) X.env) (EP X pins σ Q) X.xe s := by
  have hRR : ∀ D C s' m H', Inv X pins σ H' s' → Q (.ref D) H' → s'.heap.Ns C m → FpOk X pins H' C → compPost (model X.prog X.w) X.A X.xe none (EP X pins σ Q) (.ref D) C (.ok .next) s' := fun D C s' m H' I' q hn f => ⟨m, hn, fun h'' sb => by
    obtain ⟨f0, f1, f2, f3, f4, f5⟩ := f
    exact ⟨.ref D, H', I'.turned (t' := s'.toks) (fun b o hb e => (sb.2 b hb).trans e) f0 f1 f3 f4 f5, rfl, q⟩⟩
  rw [eval_ListComp]
  have hfree : ∀ y ∈ scope.names, y.2 = .free → ∃ c, X.env.cells.lookup y.1 = some c := fun y hy e => by
    rcases ok.free y hy e with k | k
    · exact I.ok.has _ (.inl k)
    · exact I.ok.has _ (.inr k)
  refine wpAny_comprehension_free (use := none) rfl hs (closure_ok hfree) ok.kind (fun y hy e => by rw [ok.uniq y hy, e])
    (thn (hx _ h) fun xv s1 hx => thn hx fun itv s2 h2 => ?_)
  obtain ⟨it, fp, tn, J, H2, e, I2, T, st2, f2, q⟩ := h2
  subst e
  refine wpAny_newObj_type (newEnv_comp ?_) (by show 0 ≤ sizeLine; decide)
  generalize hD : s2.heap.objs.size = D
  have hDn : H2 D = none := I2.hok.fresh (Nat.le_of_eq hD)
  obtain ⟨W, ⟨m0, w0⟩, turn⟩ := q D hDn
  -- the new list
  generalize hs3 : ({ s2 with heap := s2.heap.push { cls := .type "list", data := .seq ([] : List Value).toArray } } : Shared) = s3
  have I3 : Inv X pins σ (upd H2 D (.lst [])) s3 := by
    rw [← hs3]
    refine I2.laid (t' := s2.toks) (fun b o e => Heap.get?_push_of_some _ e) (Nat.le_of_eq hD) ⟨Nat.zero_le _, [], 0, .nil, ?_⟩
    rw [← hD]
    exact Heap.get?_push_size _ rfl
  have h3 : s3.heap = s2.heap.push { cls := .type "list", data := .seq ([] : List Value).toArray } := by rw [← hs3]
  have sz : ∀ b ∈ fp, b < s2.heap.objs.size := fun b hb => by
    obtain ⟨o, e, _⟩ := T.obj _ _ st2 b hb
    exact Heap.lt_size e
  have f3 : ∀ b ∈ fp, FpOk X pins (upd H2 D (.lst [])) b ∧ b < s3.heap.objs.size := fun b hb => by
    have hlt := sz b hb
    refine ⟨⟨?_, (f2 b hb).2⟩, by rw [h3, Heap.size_push]; exact Nat.lt_succ_of_lt hlt⟩
    rw [upd_ne (by rw [← hD]; exact Nat.ne_of_lt hlt)]
    exact (f2 b hb).1
  have st3 : tn 0 s3.heap := T.keep _ _ _ st2 fun b _ o e => by rw [h3]; exact Heap.get?_push_of_some _ e
  have I4 := block_start I3 ok hN f3
  have pg := hg s3 (upd H2 D (.lst [])) s3.heap.objs.size (cellsFrom (s3.heap.objs.size + 1) scope.names (cloFrom X.env.cells scope.names [])) fp
  have pt := ht s3 (upd H2 D (.lst [])) s3.heap.objs.size (cellsFrom (s3.heap.objs.size + 1) scope.names (cloFrom X.env.cells scope.names [])) fp
  have pe := he s3 (upd H2 D (.lst [])) s3.heap.objs.size (cellsFrom (s3.heap.objs.size + 1) scope.names (cloFrom X.env.cells scope.names [])) fp
  show codeAny _ _ (.compStart (.ListComp elt [⟨tg, iter, ifs, 0⟩] scope pos) 0 (.ref it) (.ref D) (compEnvC scope (cellsFrom (s3.heap.objs.size + 1) scope.names (cloFrom X.env.cells scope.names [])) s3.heap.objs.size X.env)) (compPost (model X.prog X.w) X.A X.xe none (EP X pins σ Q) (.ref D) s3.heap.objs.size) { s3 with heap := pushCells (s3.heap.push { cls := .type "dict", data := .dict #[] }) scope.names }
  have nfp : ∀ b ∈ fp, (upd H2 D (.lst [])) b = none := fun b hb => (f3 b hb).1.1
  generalize hce : compEnvC scope (cellsFrom (s3.heap.objs.size + 1) scope.names (cloFrom X.env.cells scope.names [])) s3.heap.objs.size X.env = ce at I4 pg pt pe ⊢
  have cL : ce.locals = s3.heap.objs.size := by subst hce; rfl
  generalize hH3 : upd H2 D (.lst []) = H3 at I3 I4 pg pt pe w0 nfp f3
  generalize hs4 : ({ s3 with heap := pushCells (s3.heap.push { cls := .type "dict", data := .dict #[] }) scope.names } : Shared) = s4 at I4 ⊢
  have st4 : tn 0 s4.heap := T.keep _ _ _ st3 fun b _ o e => by rw [← hs4]; exact pushCells_keeps _ _ _ _ (Heap.get?_push_of_some _ e)
  have stat : ∀ {σ' : L2.St} {H' : Hp} {s' : Shared}, Inv (X.blk s3 H3 scope ce fp) [] σ' H' s' → (∀ b ∈ fp, H' b = none) → ∀ b ∈ fp, FpOk (X.blk s3 H3 scope ce fp) [] H' b := fun {σ' H' s'} I' hn b hb =>
    ⟨hn b hb, (I'.ok.exf b hb).1, I'.ok.exfs b hb, .inl hb, fun x c e => (I'.ok.exf b hb).2 x c e, fun p hp => absurd (show p ∈ ([] : List (Addr × Obj)) ++ [] from hp) (by simp)⟩
  have loop : codeAny (model X.prog X.w) X.A (.compLoop (.ListComp elt [⟨tg, iter, ifs, 0⟩] scope pos) 0 (.ref it) (.ref D) ce) (compPost (model X.prog X.w) X.A X.xe none (EP X pins σ Q) (.ref D) s3.heap.objs.size) s4 := by
    refine compLoop_any (fun n s' => ∃ i H', Inv (X.blk s3 H3 scope ce fp) [] (wipe σ (own.map (·.2))) H' s' ∧ tn i s'.heap ∧ (∀ b ∈ fp, H' b = none) ∧ W i n H') ?_ m0 ⟨0, H3, I4, st4, nfp, w0⟩
    rintro n s5 ⟨i, H5, I5, st5, n5, w5⟩
    rcases turn i n H5 w5 with ⟨stop, qq⟩ | ⟨go, Nx, hNx, step⟩
    · have td := T.done (X.blk s3 H3 scope ce fp) rfl rfl rfl hc i [] s5 _ H5 (fun _ _ => False) I5 (stat I5 n5) st5 stop
      refine thnF td fun r s6 ⟨hr, I6⟩ => ?_
      subst hr
      -- back in the def's context
      have I7 : Inv X pins σ H5 s6 := I3.call' (ch := fp) I6.os I6.base I6.hok I6.bare fun b hb => ⟨(f3 b hb).1.2.2.2.1, (f3 b hb).1.2.1, (f3 b hb).1.2.2.2.2.1, (f3 b hb).1.2.2.2.2.2⟩
      have nC : H5 s3.heap.objs.size = none := by
        have z : H5 ce.locals = none := I6.free
        rw [cL] at z
        exact z
      obtain ⟨m, hn, _⟩ := I6.loc
      have hn : s6.heap.Ns ce.locals m := hn
      rw [cL] at hn
      exact hRR D s3.heap.objs.size s6 m H5 I7 qq hn (I3.fpOk (Nat.le_refl _) nC)
    · have ti := T.item (X.blk s3 H3 scope ce fp) rfl rfl rfl hc i [] s5 _ H5 (fun _ _ => False) I5 (stat I5 n5) st5 go
      refine thnF ti fun r s6 ⟨u, hr, h6⟩ => ?_
      subst hr
      refine thnF h6 fun _ s7 ⟨x, H7, I7, r7, y7, st7, n7⟩ => ?_
      have I7' := I7.pinned (stat I7 n7) (T.obj _ _ st7)
      refine thnF (pg.run _ s7 _ H7 x u _ I7' r7 (step x H7 y7)) fun _ s8 ⟨σ8, H8, I8, hw8, q8⟩ => ?_
      refine thnF (pt.run _ s8 σ8 H8 _ I8 q8) fun b s9 ⟨H9, I9, q9⟩ => ?_
      -- the turn's end
      have fin : ∀ {s' : Shared} {H' : Hp}, Inv (X.blk s3 H3 scope ce fp) ([] ++ pinsAt fp s7.heap) σ8 H' s' → Nx H' → ∃ m, m < n ∧ ∃ i H', Inv (X.blk s3 H3 scope ce fp) [] (wipe σ (own.map (·.2))) H' s' ∧ tn i s'.heap ∧ (∀ b ∈ fp, H' b = none) ∧ W i m H' := fun {s' H'} I' nx => by
        obtain ⟨m', hm, w'⟩ := hNx H' nx
        have pin' : ∀ b ∈ fp, ∀ o, s7.heap.get? b = some o → s'.heap.get? b = some o ∧ H' b = none := fun b hb o e =>
          let z := I'.pin (b, o) (List.mem_append_right _ (List.mem_append_right _ (mem_pinsAt hb e)))
          ⟨z.1, z.2.1⟩
        have hl : (wipe σ (own.map (·.2))).length = σ8.length := by rw [← hw8, wipe_length]
        refine ⟨m', hm, i + 1, H', (I'.unpinned (pins := [])).weak hl (fun j v e => ?_), T.keep _ _ _ st7 fun b hb o e => (pin' b hb o e).1, fun b hb => ?_, w'⟩
        · rw [← hw8] at e
          exact (wipe_some e).1
        · obtain ⟨o, e, _⟩ := T.obj _ _ st7 b hb
          exact (pin' b hb o e).2
      cases b with
      | false =>
        simp only [Bool.false_eq_true, if_false] at q9 ⊢
        exact fin I9 q9
      | true =>
        simp only [if_true] at q9 ⊢
        refine thnF (pe.run _ s9 σ8 H9 _ I9 q9) fun z s10 ⟨yv, H10, I10, r10, acc, hD10, hz10, nx⟩ => ?_
        exact app_ok (X := X.blk s3 H3 scope ce fp) I10 hD10 hz10 r10 fun s11 I11 => fin I11 nx
  exact codeAny_compStart_list loop (T.self X.A 0 _ _ _ st4 loop)
end
end MI
end

section
set_option Elab.async false
set_option linter.all false
set_option maxRecDepth 100000
set_option maxHeartbeats 1000000
/-! MI17: a text parted at signs and blanks. -/
namespace MI
open PySem PySem.Spec PyProof.Rows L2
/-- each sign of ss between blanks -/
def expS (ss : List Nat) (x : MI.S) : MI.S := x.flatMap fun d => if d ∈ ss then [32, d, 32] else [d]
def nlS (x : MI.S) : MI.S := x.map fun d => if d = 10 then 32 else d
def partedW (ss : List Nat) (x : MI.S) : List MI.S := (splitOn 32 (nlS (expS ss x))).filter fun w => !w.isEmpty
def partedG (ss : List Nat) (ds : List D) (h : Hs) : Res D :=
  match ds with
  | [.str x] => if x.length ≤ 262144 then new (.lst ((partedW ss x).map .str)) h else .stuck
  | _ => .stuck
theorem replL_one (c : Nat) (z : List Nat) : ∀ l : List Nat, StrLaws.replL [c] z l = l.flatMap fun d => if d = c then z else [d]
  | [] => StrLaws.replL_nil
  | d :: l => by
    rw [List.flatMap_cons]
    by_cases h : d = c
    · subst h
      rw [StrLaws.replL_hit (by simp) (by simp), if_pos rfl]
      exact congrArg (z ++ ·) (replL_one d z l)
    · rw [StrLaws.replL_miss (by simp [h]), if_neg h]
      exact congrArg (d :: ·) (replL_one c z l)
theorem rpl_cps (c : Nat) (x : Str) : (rpl c x).cps.toList = x.cps.toList.flatMap fun d => if d = c then [32, c, 32] else [d] := by
  unfold rpl
  rw [StrLaws.replace_list (show 1 ≤ (⟨#[c]⟩ : Str).length from Nat.le_refl 1)]
  exact replL_one c _ _
theorem expS_step {ss : List Nat} {c : Nat} (x : MI.S) (h32 : c ≠ 32) (hc : c ∉ ss) : (expS ss x).flatMap (fun d => if d = c then [32, c, 32] else [d]) = expS (ss ++ [c]) x := by
  unfold expS
  rw [List.flatMap_assoc]
  congr 1
  funext d
  by_cases h : d ∈ ss
  · have h1 : d ≠ c := fun e => hc (e ▸ h)
    have h2 : (32 : Nat) ≠ c := fun e => h32 e.symm
    simp [h, h1, h2]
  · by_cases h1 : d = c
    · subst h1; simp [h]
    · simp [h, h1]
theorem expS_nil (x : MI.S) : expS [] x = x := by
  unfold expS
  simp
theorem rplN_cps {l : Array Nat} (hn : l.toList.Nodup) (h32 : 32 ∉ l.toList) (x : Str) : ∀ k, k ≤ l.size → (rplN l k x).cps.toList = expS (l.toList.take k) x.cps.toList
  | 0, _ => by
    rw [List.take_zero, expS_nil]
    rfl
  | k + 1, hk => by
    have hk' : k < l.size := by omega
    have hk2 : k < l.toList.length := by simpa using hk'
    have e : l[k]?.getD 0 = l.toList[k] := by
      rw [Array.getElem?_eq_getElem hk']
      simp
    show (rpl (l[k]?.getD 0) (rplN l k x)).cps.toList = _
    rw [rpl_cps, rplN_cps hn h32 x k (by omega), e, expS_step, List.take_append_getElem]
    · exact fun z => h32 (z ▸ List.getElem_mem hk2)
    · intro hm
      obtain ⟨j, hj, ej⟩ := List.mem_iff_getElem.mp hm
      rw [List.getElem_take] at ej
      rw [List.length_take] at hj
      have hp := List.pairwise_iff_getElem.mp hn j k (by omega) hk2 (by omega)
      exact hp ej
theorem expS_len (ss : List Nat) (x : MI.S) : (expS ss x).length ≤ 3 * x.length := by
  unfold expS
  induction x with
  | nil => simp
  | cons d x ih =>
    rw [List.flatMap_cons, List.length_append, List.length_cons]
    split <;> (simp only [List.length_cons, List.length_nil]; omega)
theorem expS_mem {ss : List Nat} {x : MI.S} (hs : ∀ c ∈ x, c < 1114112) : ∀ c ∈ expS ss x, c < 1114112 := by
  intro c hc
  unfold expS at hc
  obtain ⟨d, hd, hc⟩ := List.mem_flatMap.mp hc
  split at hc
  · simp only [List.mem_cons, List.not_mem_nil, or_false] at hc
    rcases hc with rfl | rfl | rfl
    · decide
    · exact hs _ hd
    · decide
  · rw [List.mem_singleton.mp hc]; exact hs _ hd
/-! ### the source -/
def spG (ds : List D) (h : Hs) : Res D :=
  match ds with
  | [.str x] => if x.length ≤ 1048576 then new (.lst ((splitOn 32 (nlS x)).map .str)) h else .stuck
  | _ => .stuck
noncomputable def κsp : Orc := ⟨fun _ => spG, itω⟩
section
variable {G : Gm} {X : Cx} {i : Nat} {tx : Str} {p1 p2 p3 p4 p5 p6 p7 p8 : Pos} {k1 k2 k3 : Nat}
theorem nl_cps (x : MI.S) : Txt.replace (toStr x) ("\n" : Str) (" " : Str) = toStr (nlS x) := by
  refine TL.ext_tl ?_
  show (Txt.replace (toStr x) ("\n" : Str) (" " : Str)).cps.toList = nlS x
  rw [StrLaws.replace_list (by decide)]
  show StrLaws.replL [10] [32] x = nlS x
  rw [replL_one]
  unfold nlS
  induction x with
  | nil => rfl
  | cons d x ih =>
    rw [List.flatMap_cons, List.map_cons, ih]
    split <;> rfl
theorem pet_sp (hi : X.N[i]? = some tx) (hv' : Vis X.env.scope tx) (hd' : (tx == ("__debug__" : Str)) = false) (hcd : (tx == ("__classdict__" : Str)) = false) (hl1 : (p2.endLine == p5.line) = true) (hl2 : (p6.endLine == p8.line) = true) :
    L2.PET X (.Call (.Attribute (.Call (.Attribute (.Name tx p1) "replace" p2) [.Constant (.str "\n") k1 p3, .Constant (.str " ") k2 p4] [] p5) "split" p6) [.Constant (.str " ") k3 p7] [] p8) (rE G NoE κsp (.call 0 (.cons (.v i) .nil))) := by
  intro pins s τ H Q h0 I ⟨ι, σ, h, l, S, SE, p⟩
  have p' : PostD G ι H (((match σ[i]? with
    | some (some d) => Res.ok d h
    | _ => .stuck).bind fun d h => Res.ok [d] h).bind spG) Q NoE := p
  split at p'
  · rename_i d hd
    obtain ⟨v, hv, dv⟩ := SE i d hd
    have p2 : PostD G ι H (spG [d] h) Q NoE := p'
    unfold spG at p2
    split at p2
    · rename_i x e
      cases e
      split at p2
      · rename_i hx
        obtain ⟨rfl, sx⟩ := dv.str_inv
        refine PySem.Call_method1 (attr_ok rfl) rfl hl2 (thn (CwR.pet_replC (pe_var (pos := p1) hi hv' hd' hcd) (by decide) rfl rfl hl1 pins s τ H (fun u H1 => u = .str (toStr (nlS x)) ∧ H1 = H) h0 I ⟨_, hv, toStr x, rfl, ?_, ?_⟩) fun u s1 ⟨u', H1, I1, r1, e1, e2⟩ => ?_)
        · rw [toStr_len]
          show x.length + (x.length + 1) * 1 ≤ _
          omega
        · exact ⟨by rw [nl_cps], rfl⟩
        · subst e1 e2
          obtain ⟨tk, rfl⟩ := r1
          refine ⟨"str", _, PySem.F.plainAttrs_str, PySem.F.slot_str_split, PySem.F.type_str_split, typeIs_str _ _ _, (fun _ e => nomatch e), Calls.callWith_builtin rfl (Calls.evalArgs_plain (Calls.spliced_cons ?_))⟩
          refine Calls.Constant_str (Calls.spliced_nil ?_)
          have hn : (nlS x).length = x.length := by unfold nlS; simp
          have sn : SOk (nlS x) := ⟨by rw [hn]; exact sx.1, fun c hc => by
            unfold nlS at hc
            obtain ⟨d, hd, rfl⟩ := List.mem_map.mp hc
            split
            · decide
            · exact sx.2 d hd⟩
          refine m_split (G := G) (E := NoE) pins { s1 with toks := s1.toks + 1 } τ H1 (.str (toStr (nlS x))) [.str " "] _ [.str " " s1.toks] Q (I1.tok _) ⟨_, rfl⟩ (.cons ⟨_, rfl⟩ .nil) ⟨ι, .str (nlS x), [.str [32]], h, S, DV.str sn, DVs.cons (DV.str (SOk.one (by decide))) DVs.nil, ?_⟩
          show PostD G ι H1 (if (nlS x).length + 2 ≤ L ∧ 32 < 256 then new (.lst ((splitOn 32 (nlS x)).map .str)) h else .stuck) Q NoE
          rw [if_pos ⟨by rw [hn]; show x.length + 2 ≤ 16777216; omega, by decide⟩]
          exact p2
      · exact p2.elim
    · exact p2.elim
  · exact p'.elim
end
end MI
end

section
set_option Elab.async false
set_option linter.all false
set_option maxRecDepth 100000
set_option maxHeartbeats 1000000
/-! MI18: def _law_parted, whole. -/
namespace MI
open PySem PySem.Spec PyProof.Rows L2
/-- what it does -/
def partG (ss : List Nat) (ds : List D) (h : Hs) : Res D :=
  match ds with
  | [.str x] => if x.length ≤ 262144 then .ok (.ref (h.length + 1)) (h ++ [.lst ((splitOn 32 (nlS (expS ss x))).map .str), .lst ((partedW ss x).map .str)]) else .stuck
  | _ => .stuck
/-- the comprehension, in MI1 -/
abbrev lcE (i w : Nat) : IE := .lc [w] (.v w) (.nm w) (.seq (.call 0 (.cons (.v i) .nil))) (.cons (.cmp .ne (.v w) (.c (.str []))) .nil)
theorem turnE {w : Nat} {σ : Env} {h : Hs} {p : S} (hw : w < σ.length) : ((evT κsp (.nm w) (.str p) (wipeE σ [w]) h).bind fun σ h => (evC κsp (.cons (.cmp .ne (.v w) (.c (.str []))) .nil) σ h).bind fun b h => if b then (evE κsp (.v w) σ h).bind fun x h => Res.ok (some x) h else .ok none h) = .ok (if p.isEmpty then none else some (.str p)) h := by
  have e1 : ((σ.set w none).set w (some (D.str p)))[w]? = some (some (D.str p)) := List.getElem?_set_self (by simpa using hw)
  have e2 : evE κsp (.v w) ((σ.set w none).set w (some (D.str p))) h = .ok (.str p) h := by
    show (match ((σ.set w none).set w (some (D.str p)))[w]? with
    | some (some d) => Res.ok d h
    | _ => .stuck) = _
    rw [e1]
  show ((evC κsp (.cons (.cmp .ne (.v w) (.c (.str []))) .nil) ((σ.set w none).set w (some (D.str p))) h).bind fun b h => if b then (evE κsp (.v w) ((σ.set w none).set w (some (D.str p))) h).bind fun x h => Res.ok (some x) h else .ok none h) = _
  have e3 : evC κsp (.cons (.cmp .ne (.v w) (.c (.str []))) .nil) ((σ.set w none).set w (some (D.str p))) h = .ok (!p.isEmpty) h := by
    show (((evE κsp (.v w) ((σ.set w none).set w (some (D.str p))) h).bind fun x h => (evE κsp (.c (.str [])) ((σ.set w none).set w (some (D.str p))) h).bind fun y h => lift h ((cmpop .ne x y h).map .bl)).bind fun d h => match truth h d with
      | some true => evC κsp .nil ((σ.set w none).set w (some (D.str p))) h
      | some false => .ok false h
      | none => .stuck) = _
    rw [e2]
    cases p <;> rfl
  rw [e3]
  cases p with
  | nil => rfl
  | cons c p =>
    show ((evE κsp (.v w) ((σ.set w none).set w (some (D.str (c :: p)))) h).bind fun x h => Res.ok (some x) h) = _
    rw [e2]
    rfl
theorem lcF {w : Nat} {σ : Env} {h : Hs} {n : Nat} (hw : w < σ.length) {f : D → Hs → Res (Option D)} (hf : ∀ p, f (.str p) h = .ok (if List.isEmpty p then none else some (.str p)) h) {ps : List S} (hn : seqOf h n = some (ps.map .str)) :
    ∀ (k i : Nat) (acc : List D), i + k = ps.length → acc.length + k ≤ L → lcL f (.dyn n) k i acc h = .ok (acc ++ ((ps.drop i).filter fun w => !w.isEmpty).map .str) h
  | 0, i, acc, hi, _ => by
    have e : srcEnd (.dyn n) h i = true := by
      simp only [srcEnd, hn]
      exact decide_eq_true (by simp; omega)
    simp only [lcL, e, if_true]
    rw [List.drop_eq_nil_of_le (by omega)]
    simp
  | k + 1, i, acc, hi, hl => by
    have hi' : i < ps.length := by omega
    have e : srcAt (.dyn n) h i = some (.str ps[i]) := by
      simp only [srcAt, hn]
      rw [List.getElem?_map, List.getElem?_eq_getElem hi']
      rfl
    simp only [lcL, e, hf]
    rw [List.drop_eq_getElem_cons hi']
    cases hp : ps[i] with
    | nil =>
      show lcL f (.dyn n) k (i + 1) acc h = _
      rw [lcF hw hf hn k (i + 1) acc (by omega) (by omega)]
      rfl
    | cons c p =>
      show (if acc.length < L then lcL f (.dyn n) k (i + 1) (acc ++ [.str (c :: p)]) h else .stuck) = _
      rw [if_pos (by omega), lcF hw hf hn k (i + 1) _ (by omega) (by simp; omega)]
      simp
theorem lcE_ev {i w : Nat} {σ : Env} {h : Hs} {y : S} (hw : w < σ.length) (hi : σ[i]? = some (some (.str y))) (hy : y.length ≤ 1048576) :
    evE κsp (lcE i w) σ h = .ok (.ref (h.length + 1)) (h ++ [.lst ((splitOn 32 (nlS y)).map .str), .lst (((splitOn 32 (nlS y)).filter fun w => !w.isEmpty).map .str)]) := by
  have e0 : evE κsp (.v i) σ h = .ok (.str y) h := by
    show (match σ[i]? with
    | some (some d) => Res.ok d h
    | _ => .stuck) = _
    rw [hi]
  have e1 : evE κsp (.call 0 (.cons (.v i) .nil)) σ h = .ok (.ref h.length) (h ++ [.lst ((splitOn 32 (nlS y)).map .str)]) := by
    show (((evE κsp (.v i) σ h).bind fun d h => Res.ok [d] h).bind spG) = _
    rw [e0]
    show (if y.length ≤ 1048576 then new (.lst ((splitOn 32 (nlS y)).map .str)) h else .stuck) = _
    rw [if_pos hy]
    rfl
  have hs : seqOf (h ++ [.lst ((splitOn 32 (nlS y)).map .str)]) h.length = some ((splitOn 32 (nlS y)).map .str) := by
    unfold seqOf
    rw [List.getElem?_concat_length]
  have hl := splitOn_len 32 (nlS y)
  have hn : (nlS y).length = y.length := by unfold nlS; simp
  show ((evE κsp (.call 0 (.cons (.v i) .nil)) σ h).bind fun d h => lift h (srcOf d h)).bind (fun s h => (lcS _ s h).bind fun ds h => new (.lst ds) h) = _
  rw [e1]
  show (lift _ (srcOf (.ref h.length) (h ++ [.lst ((splitOn 32 (nlS y)).map .str)]))).bind _ = _
  have e2 : srcOf (.ref h.length) (h ++ [.lst ((splitOn 32 (nlS y)).map .str)]) = some (.dyn h.length) := by
    simp only [srcOf, hs]
  rw [e2]
  show (lcS _ (.dyn h.length) _).bind _ = _
  unfold lcS
  have e3 : srcLen (.dyn h.length) (h ++ [.lst ((splitOn 32 (nlS y)).map .str)]) = (splitOn 32 (nlS y)).length := by
    simp only [srcLen, hs]
    simp
  have hk : ([] : List D).length + (splitOn 32 (nlS y)).length ≤ L := by show 0 + _ ≤ 16777216; omega
  rw [e3, lcF (w := w) hw (fun p => turnE hw) hs _ 0 [] (by simp) hk]
  show new _ _ = _
  unfold new
  simp
section
variable {G : Gm} {X : Cx} {C : CT} {i w : Nat} {tx wd : Str} {p1 p2 p3 p4 p5 p6 p7 p8 pos : Pos} {k1 k2 k3 : Nat} {elt tg cnd : Expr} {scope : Scope}
theorem pet_lcP (O : XOk G κsp C X) (hi : X.N[i]? = some tx) (hv : X.env.scope.names.lookup tx = some .local) (hd : (tx == ("__debug__" : Str)) = false) (hcd : (tx == ("__classdict__" : Str)) = false) (hl1 : (p2.endLine == p5.line) = true) (hl2 : (p6.endLine == p8.line) = true)
    (hb : blkC C.N C.sc scope [(wd, w)] = true) (h1 : cT (cE 5 (C.blk scope)) (C.blk scope) 2 tg = some (.nm w)) (h2 : cE 5 (C.blk scope) cnd = some (.cmp .ne (.v w) (.c (.str [])))) (h3 : cE 5 (C.blk scope) elt = some (.v w)) :
    L2.PET X (.ListComp elt [⟨tg, .Call (.Attribute (.Call (.Attribute (.Name tx p1) "replace" p2) [.Constant (.str "\n") k1 p3, .Constant (.str " ") k2 p4] [] p5) "split" p6) [.Constant (.str " ") k3 p7] [] p8, [cnd], 0⟩] scope pos) (rE G NoE κsp (lcE i w)) := by
  intro pins s τ H Q h0 I r
  have ok : BlkOk X.N X.env.scope scope [(wd, w)] := by rw [O.hN, O.sc]; exact blkOk_by hb
  have hg : ∀ (s : Shared) (H : Hp) (A : Addr) (cl : List (Str × Addr)) (fp : List Addr), PG (X.blk s H scope (compEnvC scope cl A X.env) fp) tg (rT G NoE κsp (.nm w)) := fun s H A cl fp => cT_ok (O.blk scope s H A cl fp) (fun e ie => cE_ok (O.blk scope s H A cl fp) e ie) h1
  have ht : ∀ (s : Shared) (H : Hp) (A : Addr) (cl : List (Str × Addr)) (fp : List Addr), PTs (X.blk s H scope (compEnvC scope cl A X.env) fp) [cnd] (rC G NoE κsp (.cons (.cmp .ne (.v w) (.c (.str []))) .nil)) := fun s H A cl fp => cOne (cE_ok (O.blk scope s H A cl fp) _ _ h2).pt
  have he : ∀ (s : Shared) (H : Hp) (A : Addr) (cl : List (Str × Addr)) (fp : List Addr), PE (X.blk s H scope (compEnvC scope cl A X.env) fp) elt (rE G NoE κsp (.v w)) := fun s H A cl fp => (cE_ok (O.blk scope s H A cl fp) _ _ h3).pe
  exact lc_at (own := [(wd, w)]) (wi := rI G NoE κsp (.seq (.call 0 (.cons (.v i) .nil)))) O.calm O.nd I (fun R hR => xISeqAt O.hK I (fun Q q => pet_sp hi (.inl hv) hd hcd hl1 hl2 pins s τ H Q h0 I q) hR) ok hg ht he (fun _ => rfl)
    (xLcN (ow := [(wd, w)]) (elt := elt) (iter := elt) (ifs := [cnd]) O.calm O.nd ok (fun j hj => by simpa [slots] using hj) hg ht he r)
end
end MI
end

section
set_option Elab.async false
set_option linter.all false
set_option maxRecDepth 100000
set_option maxHeartbeats 1000000
/-! MI19: def _law_parted keeps its promise. -/
namespace MI
open PySem PySem.Spec PyProof.Rows L2
theorem psst_two {X : Cx} {st st2 : Stmt} {t u : TS} (h1 : PST X st t) (h2 : PST X st2 u) : PSsT X [st, st2] (tSeq t (tSeq u tNext)) := psst_cons h1 (psst_cons h2 CwR.psst_nil)
section
variable {pg : Program} {w : World} {K : PySem.W.Frag} {mg : Str → Option Value} {base : Heap} {x qual tx sg wd lit : Str} {params : Arguments} {scope lscope : Scope} {f : Addr} {fd : FuncData}
variable {p1 p2 p3 p4 p5 p6 p7 p8 p9 p10 p11 p12 p13 p14 : Pos} {k0 k1 k2 : Nat} {q1 q2 q3 q4 q5 q6 q7 q8 q9 q10 : Pos} {j1 j2 j3 : Nat} {elt tg cnd : Expr}
theorem parted_ok (F : FunD K x qual params [.For (.Name sg p1) (.Constant (.str lit) k0 p2) [.Assign [.Name tx p3] (.Call (.Attribute (.Name tx p4) "replace" p5) [.Name sg p6, .BinOp (.BinOp (.Constant (.str " ") k1 p7) .Add (.Name sg p8) p9) .Add (.Constant (.str " ") k2 p10) p11] [] p12) p13] [] p14,
      .Return (some (.ListComp elt [⟨tg, .Call (.Attribute (.Call (.Attribute (.Name tx q1) "replace" q2) [.Constant (.str "\n") j1 q3, .Constant (.str " ") j2 q4] [] q5) "split" q6) [.Constant (.str " ") j3 q7] [] q8, [cnd], 0⟩] lscope q9)) q10] scope [] [] f fd)
    (S : FnScope [tx, sg, wd] [tx] scope) (hnc : (scope.names.all fun y => decide (y.2 ≠ .cell)) = true) (kt : scope.names.lookup tx = some .local) (ks : scope.names.lookup sg = some .local) (hlit : lit.cps.all (· < 128) = true)
    (hd1 : (tx == ("__debug__" : Str)) = false) (hd2 : (sg == ("__debug__" : Str)) = false) (hcd : (tx == ("__classdict__" : Str)) = false) (hline : (p5.endLine == p12.line) = true) (hl1 : (q2.endLine == q5.line) = true) (hl2 : (q6.endLine == q8.line) = true)
    (hnd : lit.cps.toList.Nodup) (h32 : 32 ∉ lit.cps.toList)
    (hb : blkC [tx, sg, wd] scope lscope [(wd, 2)] = true) (h1 : cT (cE 5 (CT.blk ⟨[tx, sg, wd], scope, [], true⟩ lscope)) (CT.blk ⟨[tx, sg, wd], scope, [], true⟩ lscope) 2 tg = some (.nm 2)) (h2 : cE 5 (CT.blk ⟨[tx, sg, wd], scope, [], true⟩ lscope) cnd = some (.cmp .ne (.v 2) (.c (.str [])))) (h3 : cE 5 (CT.blk ⟨[tx, sg, wd], scope, [], true⟩ lscope) elt = some (.v 2)) :
    FnOk pg w K mg base CX0 1 f fd [tx] (spF ⟨K, fun _ => none, fun _ => none⟩ NoE 1 (partG lit.cps.toList)) := by
  obtain ⟨oc, od, dV, kV, doc, pm, an, cdv, ct, osl, rfl, lk, hcd', _, _⟩ := F.ex
  refine fn_ofT lk hcd' S (fun y hy => of_decide_eq_true (List.all_eq_true.mp hnc y hy)) (Nat.le_refl 1) (fun vs H Q E h => ?_) fun A outer s H vs Q E hr h => ?_
  · obtain ⟨ι, ds, h', l, _, q, _⟩ := h
    rw [← q.length, l]
    rfl
  · have O : XOk ⟨K, fun _ => none, fun _ => none⟩ κsp ⟨[tx, sg, wd], scope, [], true⟩ (cxOf CX0 pg w K mg base [tx, sg, wd] qual scope f cdv A outer s H E) := by
      refine ⟨rfl, rfl, rfl, S.nd, rfl, ?_, fun _ _ => rfl, fun x g ar e => (by cases e), fun x d e => (by cases e), fun x e => (by cases e)⟩
      have h1 := hr.un
      show (A.deeper _).units + 65 < cLine
      omega
    refine ⟨_, psst_two (PST.of (ps_repl (X := cxOf CX0 pg w K mg base [tx, sg, wd] qual scope f cdv A outer s H E) (i := 0) (j := 1) (lit := lit) PassesOwn.leaving rfl S.nd rfl rfl (by decide) kt ks hlit hd1 hd2 hline)) (CwR.pst_ret (pet_lcP (w := 2) (i := 0) O rfl kt hd1 hcd hl1 hl2 hb h1 h2 h3)), ?_⟩
    obtain ⟨ι, ds, h', l, Sh, q, p⟩ := h
    match ds, l with
    | [d], _ =>
      obtain ⟨v, rfl, dv⟩ := dv1 q
      unfold partG at p
      split at p
      · rename_i y e
        cases e
        split at p
        · rename_i hy
          obtain ⟨rfl, sy⟩ := dv.str_inv
          have hr : ∀ k, k ≤ lit.cps.size → rplN lit.cps k (toStr y) = toStr (expS (lit.cps.toList.take k) y) := fun k hk => TL.ext_tl (rplN_cps hnd h32 (toStr y) k hk)
          refine ⟨toStr y, rfl, fun k hk => ?_, fun w => ?_⟩
          · rw [hr k (by omega), toStr_len]
            have := expS_len (lit.cps.toList.take k) y
            omega
          · rw [hr _ (Nat.le_refl _), List.take_of_length_le (by simp)]
            have hle := expS_len lit.cps.toList y
            have hy2 : (expS lit.cps.toList y).length ≤ 1048576 := by omega
            refine ⟨ι, [some (.str (expS lit.cps.toList y)), none, none], h', rfl, Sh, ?_, ?_⟩
            · intro i d hd
              match i with
              | 0 =>
                cases hd
                exact ⟨_, rfl, DV.str ⟨Nat.le_trans hy2 (by decide), expS_mem sy.2⟩⟩
              | 1 => cases hd
              | 2 => cases hd
              | i + 3 => cases hd
            · rw [lcE_ev (Nat.lt_succ_self 2) rfl hy2]
              exact p
        · exact p.elim
      · exact p.elim
end
end MI
end

section
set_option Elab.async false
set_option linter.all false
set_option maxRecDepth 100000
set_option maxHeartbeats 1000000
/-! MI20: the program theorem from checks. -/
namespace MI
open PySem PySem.Spec PyProof.Rows L2
/-- how the arguments of D bind -/
def Bnd (D : FD) : Prop := ∀ (kV doc pm : Value) (an : Option Addr) (cdv ct : Value) (us : List Value), us.length = D.ps.length → bindArgs (PySem.W.fnOf D.d.name D.d.qual D.d.params D.d.body D.d.scope .none kV doc pm an cdv ct) ⟨us, []⟩ = pure (D.ps.zip us)
def BndAll : List FD → Prop
  | [] => True
  | D :: r => Bnd D ∧ BndAll r
theorem BndAll.mem : ∀ {FS : List FD}, BndAll FS → ∀ D ∈ FS, Bnd D
  | [], _, D, h => by cases h
  | E :: r, a, D, h => by
    rcases List.mem_cons.mp h with rfl | h
    · exact a.1
    · exact a.2.mem D h
def fnT : Nat → List FD → List (Str × Gd)
  | _, [] => []
  | k, D :: r => (D.d.name, .fn k D.ps.length) :: fnT (k + 1) r
def mkT (FS : List FD) (frees : List Str) (cs : CsT) : List (Str × Gd) := fnT 0 FS ++ (frees.map fun x => (x, Gd.free)) ++ cs.map fun q => (q.1, Gd.con q.2)
def mkFa (FS : List FD) (frees : List Str) : List He.Fa := (FS.map fun D => He.Fa.glo D.d.name) ++ frees.map He.Fa.free
def mkFn (FS : List FD) : List He.DefD := FS.map (·.d)
def mkP (G : List D → Hs → Res D) : List FD → List (Option ISs) → Prg
  | D :: r, c :: cs => (match c with
    | some b => .code ⟨D.ps.length, D.N.length, b⟩
    | none => .prim D.ps.length G) :: mkP G r cs
  | _, _ => []
theorem fnT_mem : ∀ {k : Nat} {FS : List FD} {x : Str} {f ar : Nat}, (x, Gd.fn f ar) ∈ fnT k FS → ∃ D, k ≤ f ∧ FS[f - k]? = some D ∧ D.d.name = x ∧ D.ps.length = ar
  | k, [], x, f, ar, h => by cases h
  | k, D :: r, x, f, ar, h => by
    unfold fnT at h
    rcases List.mem_cons.mp h with h | h
    · cases h
      exact ⟨D, Nat.le_refl _, by simp, rfl, rfl⟩
    · obtain ⟨D', h1, h2, h3, h4⟩ := fnT_mem h
      refine ⟨D', by omega, ?_, h3, h4⟩
      rw [show f - k = (f - (k + 1)) + 1 by omega, List.getElem?_cons_succ]
      exact h2
theorem fnT_only : ∀ {k : Nat} {FS : List FD} {x : Str} {g : Gd}, (x, g) ∈ fnT k FS → ∃ f ar, g = .fn f ar
  | k, [], x, g, h => by cases h
  | k, D :: r, x, g, h => by
    unfold fnT at h
    rcases List.mem_cons.mp h with h | h
    · cases h; exact ⟨_, _, rfl⟩
    · exact fnT_only h
theorem mkP_at (G : List D → Hs → Res D) : ∀ {FS : List FD} {cs : List (Option ISs)} {f : Nat} {D : FD} {c : Option ISs}, FS[f]? = some D → cs[f]? = some c → (mkP G FS cs)[f]? = some (match c with
    | some b => .code ⟨D.ps.length, D.N.length, b⟩
    | none => .prim D.ps.length G)
  | [], cs, f, D, c, h, _ => by simp at h
  | E :: r, [], f, D, c, _, h => by simp at h
  | E :: r, e :: cs, 0, D, c, h1, h2 => by
    cases h1; cases h2; rfl
  | E :: r, e :: cs, f + 1, D, c, h1, h2 => mkP_at G (FS := r) (cs := cs) h1 h2
theorem mkP_len (G : List D → Hs → Res D) : ∀ {FS : List FD} {cs : List (Option ISs)}, FS.length = cs.length → (mkP G FS cs).length = FS.length
  | [], _, _ => rfl
  | D :: r, [], h => by cases h
  | D :: r, c :: cs, h => by
    simp only [mkP, List.length_cons, mkP_len G (Nat.succ.inj h)]
theorem pf_of {pg : Program} {w : World} {K : PySem.W.Frag} {mg : Str → Option Value} {h base : Heap} {FS : List FD} {frees : List Str} {cs : CsT} {comps : List (Option ISs)} {G : List D → Hs → Res D} (KX : K.In h) (hns : h.Ns mainGlobals mg) (c : SaysC (mkFa FS frees) (mkFn FS) cs K)
    (hsc : (FS.all fun D => fnScopeB D.N D.ps D.d.scope && (D.d.dfl.isEmpty && (D.d.kwd.isEmpty && decide (D.d.at_ = (D.d.name, none))))) = true) (hbnd : BndAll FS)
    (hcomp : FS.map (FD.comp (mkT FS frees cs)) = comps)
    (hprim : ∀ D ∈ FS, D.comp (mkT FS frees cs) = none → ∀ fd, FunD K D.d.name D.d.qual D.d.params D.d.body D.d.scope [] [] (He.ga K D.d.name) fd → FnOk pg w K mg base CX0 1 (He.ga K D.d.name) fd D.ps (spF ⟨K, fun _ => none, fun _ => none⟩ NoE D.ps.length G)) :
    PF pg w K mg base (mkT FS frees cs) FS (mkP G FS comps) := by
  have hs : ∀ D ∈ FS, fnScopeB D.N D.ps D.d.scope = true ∧ D.d.dfl = [] ∧ D.d.kwd = [] ∧ D.d.at_ = (D.d.name, none) := fun D hD => by
    have := List.all_eq_true.mp hsc D hD
    simpa only [Bool.and_eq_true, List.isEmpty_iff, decide_eq_true_eq] using this
  refine { len := ?_, sc := fun D hD => fnScopeB_ok (hs D hD).1, fns := fun D hD => ⟨?_, ?_⟩, bnd := fun D hD => hbnd.mem D hD, code := fun f D hD => ?_, tfn := fun x f ar e => ?_, con := fun x d e => ?_, free := fun x e => ?_ }
  · exact mkP_len G (by rw [← hcomp, List.length_map])
  · exact He.glo_ok KX hns (c.d.facts (f := .glo D.d.name) (List.mem_append_left _ (List.mem_map.mpr ⟨D, hD, rfl⟩)))
  · obtain ⟨fd, F⟩ := c.d.defs (d := D.d) (List.mem_map.mpr ⟨D, hD, rfl⟩)
    obtain ⟨_, h3, h4, h5⟩ := hs D hD
    refine ⟨fd, ?_⟩
    have e1 : D.d.dvs K = [] := by unfold He.DefD.dvs; rw [h3]; rfl
    have e2 : D.d.kws K = [] := by unfold He.DefD.kws; rw [h4]; rfl
    rw [e1, e2, h5] at F
    exact F
  · have e1 : comps[f]? = some (D.comp (mkT FS frees cs)) := by rw [← hcomp, List.getElem?_map, hD]; rfl
    have e2 := mkP_at G hD e1
    cases ec : D.comp (mkT FS frees cs) with
    | some b => rw [ec] at e2; exact .inl ⟨b, rfl, e2⟩
    | none => rw [ec] at e2; exact .inr ⟨G, e2, fun fd F => hprim D (List.mem_of_getElem? hD) ec fd F⟩
  · have hm := PySem.mem_of_lookup e
    rcases List.mem_append.mp hm with hm | hm
    · rcases List.mem_append.mp hm with hm | hm
      · obtain ⟨D, _, h2, h3, h4⟩ := fnT_mem hm
        exact ⟨D, by simpa using h2, h3, h4⟩
      · obtain ⟨y, _, ey⟩ := List.mem_map.mp hm; cases ey
    · obtain ⟨y, _, ey⟩ := List.mem_map.mp hm; cases ey
  · have hm := PySem.mem_of_lookup e
    rcases List.mem_append.mp hm with hm | hm
    · rcases List.mem_append.mp hm with hm | hm
      · obtain ⟨f, ar, z⟩ := fnT_only hm; cases z
      · obtain ⟨y, _, ey⟩ := List.mem_map.mp hm; cases ey
    · obtain ⟨⟨y, d'⟩, hy, ey⟩ := List.mem_map.mp hm
      cases ey
      exact chkC_ok (G := ⟨K, fun _ => none, fun _ => none⟩) KX hns (c.con hy)
  · have hm := PySem.mem_of_lookup e
    rcases List.mem_append.mp hm with hm | hm
    · rcases List.mem_append.mp hm with hm | hm
      · obtain ⟨f, ar, z⟩ := fnT_only hm; cases z
      · obtain ⟨y, hy, ey⟩ := List.mem_map.mp hm
        cases ey
        exact He.free_ok KX hns (c.d.facts (f := .free x) (List.mem_append_right _ (List.mem_map.mpr ⟨x, hy, rfl⟩)))
    · obtain ⟨y, _, ey⟩ := List.mem_map.mp hm; cases ey
end MI
end

section
set_option Elab.async false
set_option linter.all false
set_option maxRecDepth 100000
set_option maxHeartbeats 0
namespace HD
open PySem PySem.Spec PyProof.Rows L2 MI
def top (i : Nat) : Stmt := PySem.Challenge.pw_seenorders_k44_words_of_texts.main.body.getD i (.Pass ⟨0, 0, 0, 0⟩)
def df (i : Nat) (x : Str) : He.DefD := ⟨(x, none), x, x, defArgs (top i), defBody (top i), defScope (top i), [], []⟩
def FS : List FD := ([⟨df 7 "row_end", ["line", "at", "signs", "end"], ["line", "at", "signs"]⟩, ⟨df 8 "letter_word", ["line", "at", "letters"], ["line", "at"]⟩, ⟨df 9 "word_from", ["line", "at", "figures"], ["line", "at"]⟩, ⟨df 10 "words_in", ["text", "found", "lines", "number", "line", "at", "sort", "letters"], ["text"]⟩, ⟨df 11 "words_of", ["text"], ["text"]⟩, ⟨df 13 "_law_pen", ["script", "fold", "cell"], ["script"]⟩, ⟨df 14 "_law_draw", ["pen", "many", "blend", "cell", "digit"], ["pen", "many"]⟩, ⟨df 15 "_law_pick", ["pen", "some"], ["pen", "some"]⟩, ⟨df 16 "_law_shuffled", ["pen", "some", "lap", "remain", "found"], ["pen", "some"]⟩, ⟨df 17 "_law_is_int", ["thing"], ["thing"]⟩] : List FD) ++ ([⟨df 18 "_law_value_drawn", ["pen", "loaded"], ["pen", "loaded"]⟩, ⟨df 19 "_law_statement_drawn", ["pen", "places", "loaded", "free", "way", "place"], ["pen", "places", "loaded", "free"]⟩, ⟨df 20 "_law_thread_drawn", ["pen", "places", "many", "lap", "free", "loaded", "found", "statement"], ["pen", "places", "many"]⟩, ⟨df 21 "_law_registers_of", ["statements", "row"], ["statements"]⟩, ⟨df 22 "_law_ends_drawn", ["pen", "places", "threads", "many", "able", "name", "statements", "place", "reg", "lap"], ["pen", "places", "threads", "many"]⟩, ⟨df 23 "_law_asks_drawn", ["pen", "places", "threads", "many", "lap", "names", "found", "ends"], ["pen", "places", "threads", "many"]⟩, ⟨df 24 "_law_book", ["pen", "places", "at", "names", "threads", "many"], ["pen"]⟩, ⟨df 25 "_law_statement_text", ["row"], ["row"]⟩, ⟨df 26 "_law_thread_text", ["thread", "row"], ["thread"]⟩, ⟨df 27 "_law_end_text", ["end"], ["end"]⟩] : List FD) ++ ([⟨df 28 "_law_ask_text", ["ask", "end"], ["ask"]⟩, ⟨df 29 "_law_printed", ["tree", "lines", "ask", "thread"], ["tree"]⟩, ⟨df 30 "_law_parted", ["text", "sign", "word"], ["text"]⟩, ⟨df 31 "_law_text_of", ["tree"], ["tree"]⟩, ⟨df 32 "_law_gap", ["pen", "last", "word", "close", "gap"], ["pen", "last", "word"]⟩, ⟨df 33 "_law_loose_words", ["pen", "words", "word", "text", "last"], ["pen", "words"]⟩, ⟨df 34 "_law_loose_text", ["pen", "tree", "words", "places", "many"], ["pen", "tree"]⟩, ⟨df 35 "_law_words", ["text", "lines", "number", "letters", "figures", "found", "line", "at", "many", "word", "some", "own"], ["text"]⟩, ⟨df 36 "_law_spoilt", ["pen", "text", "sign", "at", "way"], ["pen", "text"]⟩, ⟨df 37 "_law_told_ok", ["told", "word"], ["told"]⟩] : List FD) ++ ([⟨df 38 "law", ["script", "pen", "tree", "lap", "row", "odd", "text", "told", "change", "sign"], ["script"]⟩] : List FD)
def frees : List Str := (["all", "bool", "int", "isinstance", "len", "list", "range", "str", "tuple"] : List Str)
def cs : CsT := ([("LETTERS", .str [97, 98, 99, 100, 101, 102, 103, 104, 105, 106, 107, 108, 109, 110, 111, 112, 113, 114, 115, 116, 117, 118, 119, 120, 121, 122, 65, 66, 67, 68, 69, 70, 71, 72, 73, 74, 75, 76, 77, 78, 79, 80, 81, 82, 83, 84, 85, 86, 87, 88, 89, 90]), ("SIGNS", .str [97, 98, 99, 100, 101, 102, 103, 104, 105, 106, 107, 108, 109, 110, 111, 112, 113, 114, 115, 116, 117, 118, 119, 120, 121, 122, 65, 66, 67, 68, 69, 70, 71, 72, 73, 74, 75, 76, 77, 78, 79, 80, 81, 82, 83, 84, 85, 86, 87, 88, 89, 90, 48, 49, 50, 51, 52, 53, 54, 55, 56, 57, 95]), ("OWN_WORDS", .tup [(.str [97, 110, 100]), (.str [97, 115, 107]), (.str [102, 101, 110, 99, 101]), (.str [112, 108, 97, 99, 101]), (.str [114, 97]), (.str [115, 99]), (.str [115, 119, 97, 112]), (.str [116, 104, 114, 101, 97, 100]), (.str [116, 115, 111])]), ("ONE_SIGNS", .str [61, 59, 58, 44, 46, 123, 125]), ("FIGURES", .str [48, 49, 50, 51, 52, 53, 54, 55, 56, 57]), ("LONGEST_WORD", .int (12))] : List (Str × D))
abbrev T : List (Str × Gd) := mkT FS frees cs
def loose : List Str := (["LETTERS", "SIGNS", "OWN_WORDS", "ONE_SIGNS", "FIGURES", "LONGEST_WORD", "row_end", "letter_word", "word_from", "words_in"] : List Str) ++ (["words_of", "_law_pen", "_law_draw", "_law_pick", "_law_shuffled", "_law_is_int", "_law_value_drawn", "_law_statement_drawn", "_law_thread_drawn", "_law_registers_of"] : List Str) ++ (["_law_ends_drawn", "_law_asks_drawn", "_law_book", "_law_statement_text", "_law_thread_text", "_law_end_text", "_law_ask_text", "_law_printed", "_law_parted", "_law_text_of"] : List Str) ++ (["_law_gap", "_law_loose_words", "_law_loose_text", "_law_words", "_law_spoilt", "_law_told_ok"] : List Str)
abbrev R : PySem.W.OpenRow := PySem.W.OpenLaw.row PySem.Challenge.rw_seenorders_k44_words_of_texts
end HD
end

section
set_option Elab.async false
set_option linter.all false
set_option maxRecDepth 100000
set_option maxHeartbeats 0
namespace HD
open PySem PySem.Spec PyProof.Rows L2 MI
theorem checks : (FS.all fun D => fnScopeB D.N D.ps D.d.scope && (D.d.dfl.isEmpty && (D.d.kwd.isEmpty && decide (D.d.at_ = (D.d.name, none))))) = true := by kernel_rfl
theorem comps_eq : FS.map (FD.comp (mkT FS frees cs)) = comps0 := by kernel_rfl
theorem P_eq (G : List D → Hs → Res D) : mkP G FS comps0 = Pg G := by kernel_rfl
theorem bnds : BndAll FS := ⟨(fun _ _ _ _ _ _ us hl => match us, hl with | [_, _, _], _ => rfl), (fun _ _ _ _ _ _ us hl => match us, hl with | [_, _], _ => rfl), (fun _ _ _ _ _ _ us hl => match us, hl with | [_, _], _ => rfl), (fun _ _ _ _ _ _ us hl => match us, hl with | [_], _ => rfl), (fun _ _ _ _ _ _ us hl => match us, hl with | [_], _ => rfl), (fun _ _ _ _ _ _ us hl => match us, hl with | [_], _ => rfl), (fun _ _ _ _ _ _ us hl => match us, hl with | [_, _], _ => rfl), (fun _ _ _ _ _ _ us hl => match us, hl with | [_, _], _ => rfl), (fun _ _ _ _ _ _ us hl => match us, hl with | [_, _], _ => rfl), (fun _ _ _ _ _ _ us hl => match us, hl with | [_], _ => rfl), (fun _ _ _ _ _ _ us hl => match us, hl with | [_, _], _ => rfl), (fun _ _ _ _ _ _ us hl => match us, hl with | [_, _, _, _], _ => rfl), (fun _ _ _ _ _ _ us hl => match us, hl with | [_, _, _], _ => rfl), (fun _ _ _ _ _ _ us hl => match us, hl with | [_], _ => rfl), (fun _ _ _ _ _ _ us hl => match us, hl with | [_, _, _, _], _ => rfl), (fun _ _ _ _ _ _ us hl => match us, hl with | [_, _, _, _], _ => rfl), (fun _ _ _ _ _ _ us hl => match us, hl with | [_], _ => rfl), (fun _ _ _ _ _ _ us hl => match us, hl with | [_], _ => rfl), (fun _ _ _ _ _ _ us hl => match us, hl with | [_], _ => rfl), (fun _ _ _ _ _ _ us hl => match us, hl with | [_], _ => rfl), (fun _ _ _ _ _ _ us hl => match us, hl with | [_], _ => rfl), (fun _ _ _ _ _ _ us hl => match us, hl with | [_], _ => rfl), (fun _ _ _ _ _ _ us hl => match us, hl with | [_], _ => rfl), (fun _ _ _ _ _ _ us hl => match us, hl with | [_], _ => rfl), (fun _ _ _ _ _ _ us hl => match us, hl with | [_, _, _], _ => rfl), (fun _ _ _ _ _ _ us hl => match us, hl with | [_, _], _ => rfl), (fun _ _ _ _ _ _ us hl => match us, hl with | [_, _], _ => rfl), (fun _ _ _ _ _ _ us hl => match us, hl with | [_], _ => rfl), (fun _ _ _ _ _ _ us hl => match us, hl with | [_, _], _ => rfl), (fun _ _ _ _ _ _ us hl => match us, hl with | [_], _ => rfl), (fun _ _ _ _ _ _ us hl => match us, hl with | [_], _ => rfl), trivial⟩
end HD
end

section
set_option Elab.async false
set_option linter.all false
set_option maxRecDepth 100000
set_option maxHeartbeats 0
namespace HD
open PySem PySem.Spec PyProof.Rows L2 MI
abbrev hk : PySem.W.Hook := hookC 4 (mkFa FS frees) (mkFn FS) cs
def ob (s : PySem.W.SharedT) : AlC := obsCG 4 (mkFa FS frees) (mkFn FS) cs (HandSHeadRun.getT s)
theorem ob_eq (s : PySem.W.SharedT) : ob s = hk.obs s.abs := obsCG_eq (HandSHeadRun.getT_eq s)
theorem run (w : World) : HandSHeadRun.RunEq R (PySem.W.view R.prog [38]) hk ob 60000 loose w := by
  intro os
  kernel_rfl
end HD
end

section
set_option Elab.async false
set_option linter.all false
set_option maxRecDepth 100000
set_option maxHeartbeats 0
namespace HD
open PySem PySem.Spec PyProof.Rows L2 MI
abbrev sgs : List Nat := [61, 59, 58, 44, 46, 123, 125]
theorem prim_ok {pg : Program} {w : World} {K : PySem.W.Frag} {mg : Str → Option Value} {base : Heap} : ∀ D ∈ FS, D.comp (mkT FS frees cs) = none → ∀ fd, FunD K D.d.name D.d.qual D.d.params D.d.body D.d.scope [] [] (He.ga K D.d.name) fd → FnOk pg w K mg base CX0 1 (He.ga K D.d.name) fd D.ps (spF ⟨K, fun _ => none, fun _ => none⟩ NoE D.ps.length (partG sgs)) := by
  intro D hD hc fd F
  obtain ⟨f, hf, e⟩ := List.mem_iff_getElem.mp hD
  have e1 : FS[f]? = some D := by rw [List.getElem?_eq_getElem hf, e]
  have e2 : comps0[f]? = some none := by rw [← comps_eq, List.getElem?_map, e1]; exact congrArg some hc
  have h31 : f < 31 := hf
  have e3 : f = 22 := by
    have key : ∀ f < 31, (comps0.map Option.isSome)[f]? = some false → f = 22 := by decide +kernel
    refine key f h31 ?_
    rw [List.getElem?_map, e2]; rfl
  subst e3
  have e4 : D = ⟨df 30 "_law_parted", ["text", "sign", "word"], ["text"]⟩ := (Option.some.inj e1).symm
  subst e4
  exact parted_ok (wd := "word") (lit := "=;:,.{}") F (fnScopeB_ok (by kernel_rfl)) (by kernel_rfl) (by kernel_rfl) (by kernel_rfl) (by kernel_rfl) (by decide) (by decide) (by decide) (by kernel_rfl) (by kernel_rfl) (by kernel_rfl) (by decide +kernel) (by decide +kernel) (by kernel_rfl) (by kernel_rfl) (by kernel_rfl) (by kernel_rfl)
abbrev PK : Prg := Pg (partG sgs)
/-- what is left to show: the law of MI1 -/
def Pure : Prop := ∀ ns : List Int, ns.length ≤ 63 → (MI.run PK 21 30 [.lst (ns.map .int)] []).W (fun d _ => d = .bl true) (fun _ _ => False)
abbrev lawD : FD := ⟨df 38 "law", ["script", "pen", "tree", "lap", "row", "odd", "text", "told", "change", "sign"], ["script"]⟩
theorem facts {pg : Program} {w : World} {K : PySem.W.Frag} {h : Heap} {mg : Str → Option Value} {f : Addr} (X : K.In h) (G : h.Ns mainGlobals mg) (hfa : mg ("law" : Str) = some (.ref f)) (c : SaysC (mkFa FS frees) (mkFn FS) cs K) :
    ∃ fd : FuncData, (∀ (s : Shared) (v : Value), BindsTo s fd ⟨[v], []⟩ [("script", v)]) ∧ ∀ base : Heap, K.In base → base.Ns mainGlobals mg → FnOk pg w K mg base CX0 21 f fd ["script"] (spF ⟨K, fun _ => none, fun _ => none⟩ NoE 1 (MI.run PK 21 30)) := by
  have A : ∀ base, PF pg w K mg base (mkT FS frees cs) FS (mkP (partG sgs) FS comps0) := fun base => pf_of X G c checks bnds comps_eq prim_ok
  have hD : FS[30]? = some lawD := rfl
  obtain ⟨m, fd, F⟩ := (A h).fns lawD (List.mem_of_getElem? hD)
  have e := hfa.symm.trans m
  cases e
  have b := FunD.bindsA (ps := ["script"]) F (bnds.mem lawD (List.mem_of_getElem? hD))
  refine ⟨fd, fun s v => b s [v] rfl, fun base _ _ => ?_⟩
  have q := prog_ok (A base) 21 30 lawD fd hD F
  rw [P_eq] at q
  exact q
theorem wr_pure (hp : Pure) {K : PySem.W.Frag} (H : Hp) (a : Addr) (ns : List Int) (hl : ns.length ≤ 63) (hO : Only H) (hS : SqL K H a (ns.map V.int)) : spF ⟨K, fun _ => none, fun _ => none⟩ NoE 1 (MI.run PK 21 30) [.ref a] H (fun v _ => v = .bl true) fun _ _ _ => False := by
  refine ⟨[], [.lst (ns.map .int)], [], rfl, ⟨rfl, fun n w a e _ => (by simp at e), fun n k a e _ => (by simp at e)⟩, DVs.cons ?_ DVs.nil, ?_⟩
  · unfold DV
    refine ⟨a, ns.map V.int, rfl, ?_, ?_, ?_⟩
    · rcases hS with (h | h) | h
      · rcases hO a with z | ⟨o, xs, z⟩ <;> (rw [z] at h; cases h)
      · exact .inl h
      · exact .inr h
    · rw [List.length_map]; exact Nat.le_trans hl (by decide)
    · clear hl hS
      induction ns with
      | nil => exact DVs.nil
      | cons n ns ih => exact DVs.cons DV.int ih
  · exact Res.W.mono (hp ns hl) (fun d h' q ι' H' v _ _ dv => by subst q; exact dv.bl_inv) fun x h' q => q.elim
end HD
open PySem PySem.W PySem.Calls PyProof.Rows
theorem k44_of (hp : HD.Pure) : PySem.Challenge.rw_seenorders_k44_words_of_texts.Holds := by
  w_on; o_law
  refine HandSHeadRun.head_any (r := HD.R) (q := view HD.R.prog [38]) (H := HD.hk) (ob := HD.ob) (M := 60000) (loose := HD.loose) (d := HandSHeadRun.topDef HD.R.prog 38) (kwd := []) HD.ob_eq
    (by kernel_rfl) (fun s => by kernel_rfl) HD.run (by kernel_rfl) (by kernel_rfl) (by kernel_rfl) (by rfl) (by first | assumption | decide +kernel) (by decide +kernel) ⟨rfl, rfl, rfl, rfl, rfl, by decide +kernel⟩ ?hw ?hc
  case hw => w_witness2
  case hc =>
    refine L2.walk_ofE (l := PySem.Challenge.rw_seenorders_k44_words_of_texts) (n := 63) (k := 21) (x := "script") (CX := L2.CX0) rfl (by decide) (by kernel_rfl) ⟨rfl, by decide, by decide⟩ ?F (fun _ _ _ _ z => z)
    intro w mg fa h Y G hmg0
    obtain ⟨K, KX, c⟩ := Y
    have hmg : mg ("law" : PySem.Str) = some (.ref fa) := by
      have e : (HandSHeadRun.topDef HD.R.prog 38).name = ("law" : PySem.Str) := by kernel_rfl
      rw [← e]
      exact hmg0
    obtain ⟨fd, hb, hF⟩ := HD.facts (pg := (PySem.Challenge.rw_seenorders_k44_words_of_texts).prog) (w := w) KX G hmg c
    exact ⟨K, fd, _, KX, hb, fun H a ns hl hO hS => HD.wr_pure hp H a ns hl hO hS, hF⟩
end

section
set_option linter.all false
set_option maxRecDepth 100000
namespace HD
open MI
theorem GOk_part : GOk (partG [61, 59, 58, 44, 46, 123, 125]) := fun x h hx => by
  show (if x.length ≤ 262144 then Res.ok (D.ref (h.length + 1)) (h ++ [MO.lst ((splitOn 32 (nlS (expS [61, 59, 58, 44, 46, 123, 125] x))).map .str), .lst ((partedW [61, 59, 58, 44, 46, 123, 125] x).map .str)]) else .stuck) = _
  rw [if_pos hx]
  rfl
theorem W_of_T {α : Type} {r : Res α} {Q : α → Hs → Prop} {E : D → Hs → Prop} (p : r.T Q) : r.W Q E := by
  cases r with
  | ok a h => exact p
  | err x h => exact p.elim
  | stuck => exact p.elim
theorem pure44 : Pure := fun ns _ => W_of_T (law_T (n := 14) GOk_part ns)
theorem holds : PySem.Challenge.rw_seenorders_k44_words_of_texts.Holds := k44_of pure44
end HD
end
theorem PySem.Challenge.cw_seenorders_k44_words_of_texts_holds : PySem.Challenge.rw_seenorders_k44_words_of_texts.Holds := by
  exact HD.holds
