import PyProof.Rows.All
import HandS.ForMost
import HandS.SortInts
import HandS.Gcd
import KE.KMathGC
import HandS.TupLen
import HandS.Conv
import HandS.More
import HandS.TupAny
import HandS.TupMul
import HandS.Zip
import HandS.Rev
import HandS.IsInst
import HandS.Wide
import HandS.EndBits
import HandS.Style
import HandS.Small
import HandS.Defaults
import HandS.Head3
import HandS.HeadEnd
import HandS.HeadHook1
import HandS.HeadHook2
import PySem.Challenge.RW_ringsandsteps_k97_whole_looks
set_option Elab.async false
set_option linter.all false
set_option maxRecDepth 100000
set_option maxHeartbeats 0
/-! ### Eng0 -/
/-! Eng0: data, a small syntax, its interpreter. -/
namespace Eng
open PySem L2

abbrev D := PyData
abbrev St : Type := L2.St

/-- a value that a local holds: data; a list that is still owned (its items may be owned lists too); a dict; the script -/
inductive T where
  | dat (d : D)
  | lst (ts : List T)
  | dK (fz : Bool) (kvs : List (Key × D))
  | dT (fz : Bool) (kvs : List (List Key × D))
  | scr (ns : List Int)

mutual
def T.data : T → Option D
  | .dat d => some d
  | .lst ts => (T.datas ts).map .list
  | _ => none
def T.datas : List T → Option (List D)
  | [] => some []
  | t :: ts => (T.data t).bind fun d => (T.datas ts).map fun ds => d :: ds
end
/-- what it is from now on, never changed again -/
def T.frz : T → Option T
  | .dat d => some (.dat d)
  | .lst ts => (T.data (.lst ts)).map .dat
  | .dK _ kvs => some (.dK true kvs)
  | .dT _ kvs => some (.dT true kvs)
  | .scr ns => some (.scr ns)

abbrev S := List (Option T)

inductive BOp where | add | sub | mul | fdiv | mod | pow | shl | shr | band | bor | bxor
  deriving DecidableEq
inductive UOp where | neg | inv | nt
  deriving DecidableEq
inductive COp where | eq | ne | lt | le | gt | ge | isin | notin
  deriving DecidableEq
inductive Bi where | len | abs | min | max | sum | all | any | sorted | tuple | list | int | gcd | comb | isint | isbool | istup | isstr | islist | isdict | revl | zipl | enuml | set
  deriving DecidableEq
inductive Me where | append | extend | pop | popAt | get1 | get2 | insert | remove | index | count
  deriving DecidableEq

mutual
inductive E where
  | var (i : Nat) | mv (i : Nat)
  | int (k : Int) | bl (b : Bool) | non | str (x : Str)
  | bin (o : BOp) (a b : E) | un (o : UOp) (a : E)
  | and (a b : E) | or (a b : E) | one (a : E)
  | cmp (o : COp) (vs : Vs) | cmp2 (o o' : COp) (a b c : E)
  | isN (a : Bs) | isnN (a : Bs)
  | ife (c a b : E)
  | call (f : Nat) (as : As)
  | callK (f np : Nat) (es : Es) (ks : List Str) (perm : List Nat)
  | bi (f : Bi) (es : Vs)
  | tup (es : Es) | lst (es : Es)
  | idx (b : Bs) (ix : E)
  | slc (b : Bs) (lo hi : Oe)
  | meth (m : Me) (p : Pl) (es : Es)
  | comp (elt : E) (own : List Nat) (tg : Tg) (it : Src) (ifs : Es)
  | dnew (tk : Bool) | d1 (tk : Bool) (k v : E)
  | bad
inductive Oe where | no | yes (e : E)
inductive Es where | nil | cons (e : E) (es : Es)
/-- a base that is only looked at: a place, or any other expression -/
inductive Bs where | pl (p : Pl) | ex (e : E)
inductive Vs where | one (a : Bs) | two (a b : Bs)
inductive Pl where | mk (i : Nat) (ixs : Es)
/-- an argument: the local i lent, or a value -/
inductive As where | nil | ref (i : Nat) (as : As) | val (e : E) (as : As)
inductive Tg where | nm (i : Nat) | tp (ts : Tgs) | sub (p : Pl) (ix : E)
inductive Tgs where | nil | cons (t : Tg) (ts : Tgs)
inductive Src where | seq (e : E) | rng1 (a : E) | rng2 (a b : E) | rng3 (a b c : E) | enum (e : E) | zip (a b : E)
end

mutual
inductive Cmd where
  | asg (t : Tg) (e : E)
  | par (i j : Nat) (a b : E)
  | par3 (i j k : Nat) (a b c : E)
  | parT (i j : Nat) (a b : E)
  | expr (e : E)
  | ife (c : E) (a b : Cmds)
  | forS (t : Tg) (it : Src) (body : Cmds)
  | whil (c : E) (body : Cmds)
  | ret (e : E) | retN | brk | cont | pas | bad
inductive Cmds where | nil | cons (s : Cmd) (ss : Cmds)
end

structure Fn where
  name : Str
  ps : List Str
  ns : List Str
  refs : List Bool
  body : Cmds

/-! ### what operators tell of data -/
def atD {α : Type} (xs : List α) (i : Int) : Option α := L2.atI xs i

def mulOk (i j : Int) : Bool := decide (i.natAbs < 2 ^ 64) || decide (j.natAbs < 2 ^ 64) || (decide (i.natAbs < 2 ^ 100000) && decide (j.natAbs < 2 ^ 100000))
def binI : BOp → Int → Int → Option Int
  | .add, i, j => some (i + j)
  | .sub, i, j => some (i - j)
  | .mul, i, j => if mulOk i j then some (i * j) else none
  | .fdiv, i, j => if decide (j ≠ 0) && decide (j.natAbs < 1073741824) then some (i.fdiv j) else none
  | .mod, i, j => if decide (j ≠ 0) then some (i.fmod j) else none
  | .pow, i, j => if decide (0 ≤ j) && decide (j ≤ 100000) && decide (i.natAbs < 2 ^ 64) then some (i ^ j.toNat) else none
  | .shl, i, j => if decide (0 ≤ j) && decide (j ≤ 100000) && decide (i.natAbs < 2 ^ 64) then some (i * 2 ^ j.toNat) else none
  | .shr, i, j => if decide (0 ≤ j) then some (i / 2 ^ j.toNat) else none
  | .band, i, j => some (Builtin.bitAnd i j)
  | .bor, i, j => some (Builtin.bitOr i j)
  | .bxor, i, j => some (Builtin.bitXor i j)

/-- lists and tuples have at most so many items -/
abbrev lineN : Nat := 1000000
def binD : BOp → D → D → Option T
  | o, .int i, .int j => (binI o i j).map fun k => .dat (.int k)
  | .add, .tuple xs, .tuple ys => if xs.length + ys.length ≤ lineN then some (.dat (.tuple (xs ++ ys))) else none
  | .add, .list xs, .list ys => if xs.length + ys.length ≤ lineN then some (.lst ((xs ++ ys).map .dat)) else none
  | .mul, .list xs, .int k => if decide (-(2 ^ 62) ≤ k) && decide (k < 2 ^ 62) && decide (xs.length * k.toNat ≤ lineN) then some (.lst ((List.replicate k.toNat xs).flatten.map .dat)) else none
  | .mul, .tuple xs, .int k => if !xs.isEmpty && decide (2 ≤ k) && decide (k ≤ 1000) && decide (xs.length ≤ 1000) then some (.dat (.tuple (List.replicate k.toNat xs).flatten)) else none
  | _, _, _ => none
def unD : UOp → D → Option D
  | .neg, .int i => some (.int (-i))
  | .inv, .int i => some (.int (Builtin.bitNot i))
  | .nt, .bool b => some (.bool (!b))
  | _, _ => none

def toKey : D → Option Key
  | .int i => some (.inl i)
  | .str x => some (.inr x)
  | _ => none
def toKeys : List D → Option (List Key)
  | [] => some []
  | d :: ds => (toKey d).bind fun k => (toKeys ds).map fun ks => k :: ks
def ofKey : Key → D
  | .inl i => .int i
  | .inr x => .str x

/-- lexicographic order of tuples of ints -/
def intsOf : List D → Option (List Int)
  | [] => some []
  | .int i :: ds => (intsOf ds).map fun is => i :: is
  | _ => none

def cmpI : COp → Int → Int → Option Bool
  | .eq, i, j => some (decide (i = j))
  | .ne, i, j => some (!decide (i = j))
  | .lt, i, j => some (decide (i < j))
  | .le, i, j => some (decide (i ≤ j))
  | .gt, i, j => some (decide (j < i))
  | .ge, i, j => some (decide (j ≤ i))
  | _, _, _ => none
/-- plain things that `in` may look at one by one -/
def flatD : D → Bool
  | .none => true | .bool _ => true | .int _ => true | .str _ => true | _ => false
def valD {α : Type} [DecidableEq α] (kvs : List (α × D)) (k : α) : Option D := (kvs.find? fun kv => decide (kv.1 = k)).map (·.2)
/-- all that deep == serves: depth at most 64, never great -/
def shp (d : D) : Bool := SeqAt.shaped d
def cmpT : COp → T → T → Option Bool
  | .isin, .dat d, .dK _ kvs => (toKey d).map fun k => (valD kvs k).isSome
  | .notin, .dat d, .dK _ kvs => (toKey d).map fun k => !(valD kvs k).isSome
  | .isin, .dat (.tuple ds), .dT _ kvs => (toKeys ds).map fun k => (valD kvs k).isSome
  | .notin, .dat (.tuple ds), .dT _ kvs => (toKeys ds).map fun k => !(valD kvs k).isSome
  | .isin, .dat d, .dat (.list xs) => if flatD d && xs.all flatD then some (xs.any fun x => PyData.eqv x d) else none
  | .isin, .dat d, .dat (.tuple xs) => if flatD d && xs.all flatD then some (xs.any fun x => PyData.eqv x d) else none
  | .notin, .dat d, .dat (.list xs) => if flatD d && xs.all flatD then some (!xs.any fun x => PyData.eqv x d) else none
  | .notin, .dat d, .dat (.tuple xs) => if flatD d && xs.all flatD then some (!xs.any fun x => PyData.eqv x d) else none
  | o, .dat (.int i), .dat (.int j) => cmpI o i j
  | .eq, .dat d, .dat e => if shp d && shp e then some (PyData.eqv d e) else none
  | .ne, .dat d, .dat e => if shp d && shp e then some (!PyData.eqv d e) else none
  | .lt, .dat (.tuple xs), .dat (.tuple ys) => (intsOf xs).bind fun is => (intsOf ys).map fun js => HT.lexLt is js
  | _, _, _ => none

def cmpTs (o : COp) : List T → Option Bool
  | [x, y] => cmpT o x y
  | _ => none
/-- the items of a list or a tuple -/
def seqD : D → Option (List D)
  | .list xs => some xs
  | .tuple xs => some xs
  | _ => none

def insI (x : Int) : List Int → List Int
  | [] => [x]
  | y :: ys => if x ≤ y then x :: y :: ys else y :: insI x ys
def sortI : List Int → List Int
  | [] => []
  | x :: xs => insI x (sortI xs)
/-- pairs of ints by the order of tuples -/
def pairOf : D → Option (Int × Int)
  | .tuple [.int a, .int b] => some (a, b)
  | _ => none
def pairsOf : List D → Option (List (Int × Int))
  | [] => some []
  | d :: ds => (pairOf d).bind fun p => (pairsOf ds).map fun ps => p :: ps
def leP (p q : Int × Int) : Bool := decide (p.1 < q.1) || (decide (p.1 = q.1) && decide (p.2 ≤ q.2))
def insP (x : Int × Int) : List (Int × Int) → List (Int × Int)
  | [] => [x]
  | y :: ys => if leP x y then x :: y :: ys else y :: insP x ys
def sortP : List (Int × Int) → List (Int × Int)
  | [] => []
  | x :: xs => insP x (sortP xs)
def dP (p : Int × Int) : D := .tuple [.int p.1, .int p.2]

def sortD (ds : List D) : Option (List D) :=
  match intsOf ds with
  | some is => some ((sortI is).map .int)
  | none => match pairsOf ds with
    | some ps => some ((sortP ps).map dP)
    | none => none

def minI : List Int → Option Int
  | [] => none
  | [x] => some x
  | x :: xs => (minI xs).map fun m => if m < x then m else x
def maxI : List Int → Option Int
  | [] => none
  | [x] => some x
  | x :: xs => (maxI xs).map fun m => if x < m then m else x
def boolsOf : List D → Option (List Bool)
  | [] => some []
  | .bool b :: ds => (boolsOf ds).map fun bs => b :: bs
  | _ => none
def zipD : List D → List D → List D
  | x :: xs, y :: ys => .tuple [x, y] :: zipD xs ys
  | _, _ => []
def enumD : Nat → List D → List D
  | _, [] => []
  | n, x :: xs => .tuple [.int n, x] :: enumD (n + 1) xs
/-- a fresh list of data -/
def freshL (ds : List D) : T := .lst (ds.map .dat)
def isT (f : D → Bool) : List T → Option T
  | [.dat d] => some (.dat (.bool (f d)))
  | _ => none
def biF : Bi → List T → Option T
  | .len, [.dat (.list xs)] => some (.dat (.int xs.length))
  | .len, [.dat (.tuple xs)] => some (.dat (.int xs.length))
  | .len, [.dK _ kvs] => some (.dat (.int kvs.length))
  | .len, [.dT _ kvs] => some (.dat (.int kvs.length))
  | .len, [.scr ns] => some (.dat (.int ns.length))
  | .abs, [.dat (.int i)] => some (.dat (.int (if i < 0 then -i else i)))
  | .min, [.dat (.int i), .dat (.int j)] => some (.dat (.int (if j < i then j else i)))
  | .max, [.dat (.int i), .dat (.int j)] => some (.dat (.int (if j > i then j else i)))
  | .min, [.dat (.list xs)] => (intsOf xs).bind fun is => (minI is).map fun m => .dat (.int m)
  | .max, [.dat (.list xs)] => (intsOf xs).bind fun is => (maxI is).map fun m => .dat (.int m)
  | .sum, [.dat (.list xs)] => (intsOf xs).map fun is => .dat (.int is.sum)
  | .all, [.dat (.list xs)] => (boolsOf xs).map fun bs => .dat (.bool (bs.all id))
  | .any, [.dat (.list xs)] => (boolsOf xs).map fun bs => .dat (.bool (bs.any id))
  | .sorted, [.dat (.list xs)] => (sortD xs).map freshL
  | .sorted, [.dT _ kvs] => (sortD (kvs.map fun kv => .tuple (kv.1.map ofKey))).map freshL
  | .sorted, [.dK _ kvs] => (sortD (kvs.map fun kv => ofKey kv.1)).map freshL
  | .tuple, [.dat (.list xs)] => some (.dat (.tuple xs))
  | .tuple, [.dat (.tuple xs)] => some (.dat (.tuple xs))
  | .list, [.dat (.list xs)] => some (freshL xs)
  | .list, [.dat (.tuple xs)] => some (freshL xs)
  | .list, [.dK _ kvs] => some (freshL (kvs.map fun kv => ofKey kv.1))
  | .list, [.dT _ kvs] => none
  | .int, [.dat (.int i)] => some (.dat (.int i))
  | .int, [.dat (.bool b)] => some (.dat (.int (if b then 1 else 0)))
  | .gcd, [.dat (.int i), .dat (.int j)] => some (.dat (.int (Nat.gcd i.natAbs j.natAbs : Nat)))
  | .comb, [.dat (.int i), .dat (.int j)] => if decide (0 ≤ i) && decide (0 ≤ j) && decide (i < 2 ^ 64) && decide (j ≤ 9000) then some (.dat (.int (PySem.W.mcComb i j))) else none
  | .isint, ts => isT (fun | .int _ => true | .bool _ => true | _ => false) ts
  | .isbool, ts => isT (fun | .bool _ => true | _ => false) ts
  | .istup, ts => isT (fun | .tuple _ => true | _ => false) ts
  | .isstr, ts => isT (fun | .str _ => true | _ => false) ts
  | .islist, ts => isT (fun | .list _ => true | _ => false) ts
  | .revl, [.dat (.list xs)] => some (freshL xs.reverse)
  | .zipl, [.dat x, .dat y] => (seqD x).bind fun xs => (seqD y).map fun ys => freshL (zipD xs ys)
  | .enuml, [.dat (.list xs)] => some (freshL (enumD 0 xs))
  | _, _ => none

/-! ### places -/
def ixO (n : Nat) (k : Int) : Option Nat := L2.ixN n k
/-- along a path -/
def getP : T → List Int → Option T
  | t, [] => some t
  | .lst ts, k :: ks => (ixO ts.length k).bind fun j => (ts[j]?).bind fun t => getP t ks
  | .dat (.list ds), k :: ks => (ixO ds.length k).bind fun j => (ds[j]?).bind fun d => getP (.dat d) ks
  | .dat (.tuple ds), k :: ks => (ixO ds.length k).bind fun j => (ds[j]?).bind fun d => getP (.dat d) ks
  | .dK _ kvs, k :: ks => (valD kvs (.inl k)).bind fun d => getP (.dat d) ks
  | _, _ => none
def setP : T → List Int → T → Option T
  | _, [], u => some u
  | .lst ts, k :: ks, u => (ixO ts.length k).bind fun j => (ts[j]?).bind fun t => (setP t ks u).map fun t' => .lst (ts.set j t')
  | _, _, _ => none
def getS (s : S) (i : Nat) : Option T := s.getD i none

/-- how an owned list of data looks -/
def flatT : List T → Option (List D)
  | [] => some []
  | .dat d :: ts => (flatT ts).map fun ds => d :: ds
  | _ => none
def T.look : T → Option T
  | .lst ts => (flatT ts).map fun ds => .dat (.list ds)
  | t => some t

/-- a dict's put -/
def putD {α : Type} [DecidableEq α] (kvs : List (α × D)) (k : α) (v : D) : List (α × D) :=
  if (kvs.any fun kv => decide (kv.1 = k)) = true then kvs.map (fun kv => if kv.1 = k then (kv.1, v) else kv) else kvs ++ [(k, v)]

/-! ### steps in a row -/
def bnd {α β γ : Type} (m : Option (α × β)) (f : α → β → Option γ) : Option γ := match m with
  | some (a, b) => f a b
  | none => none
@[simp] theorem bnd_some {α β γ : Type} (a : α) (b : β) (f : α → β → Option γ) : bnd (some (a, b)) f = f a b := rfl
@[simp] theorem bnd_none {α β γ : Type} (f : α → β → Option γ) : bnd none f = none := rfl
theorem bnd_eq {α β γ : Type} {m : Option (α × β)} {f : α → β → Option γ} {c : γ} (h : bnd m f = some c) : ∃ a b, m = some (a, b) ∧ f a b = some c := by
  cases m with
  | none => cases h
  | some p => obtain ⟨a, b⟩ := p; exact ⟨a, b, rfl, h⟩

inductive R where | nx (s : S) | rt (t : T) (s : S) | bk (s : S) | ct (s : S)

def asInt : D → Option Int
  | .int k => some k
  | _ => none
def asBool : D → Option Bool
  | .bool b => some b
  | _ => none

/-- an int that is told without any change: for the inner places of a path -/
def pureI : E → S → Option Int
  | .int k, _ => some k
  | .var i, s => match getS s i with
    | some (.dat (.int k)) => some k
    | _ => none
  | .bin o a b, s => (pureI a s).bind fun i => (pureI b s).bind fun j => binI o i j
  | .un .neg a, s => (pureI a s).map fun i => -i
  | _, _ => none
def pureIs : Es → S → Option (List Int)
  | .nil, _ => some []
  | .cons e es, s => (pureI e s).bind fun k => (pureIs es s).map fun ks => k :: ks
/-- data that is told without any change -/
def pureD : E → S → Option D
  | .var i, s => match getS s i with
    | some (.dat d) => some d
    | _ => none
  | .bl b, _ => some (.bool b)
  | .non, _ => some .none
  | .lst .nil, _ => some (.list [])
  | e, s => (pureI e s).map .int
/-- .. and without any new thing -/
def pureK (e : E) (s : S) : Option D := match pureD e s with
  | some (.list []) => none
  | o => o
def pureO : Oe → S → Option (Option Int)
  | .no, _ => some none
  | .yes e, s => (pureI e s).map some
def Pl.at (p : Pl) (s : S) : Option T := match p with
  | .mk i ixs => (pureIs ixs s).bind fun ks => (getS s i).bind fun t => getP t ks
def Pl.look (p : Pl) (s : S) : Option T := (p.at s).bind T.look
def Pl.put (p : Pl) (s : S) (u : T) : Option S := match p with
  | .mk i ixs => (pureIs ixs s).bind fun ks => (getS s i).bind fun t => (setP t ks u).map fun t' => s.set i (some t')
def Pl.isVar : Pl → Bool
  | .mk _ .nil => true
  | _ => false

/-- an item of a thing: data of data; an owned item of an owned list comes frozen, and stays so -/
def itemT : T → D → Option (T × Option T)
  | .dat (.list ds), .int k => (atD ds k).map fun d => (.dat d, none)
  | .dat (.tuple ds), .int k => (atD ds k).map fun d => (.dat d, none)
  | .dK _ kvs, d => (toKey d).bind fun k => (valD kvs k).map fun v => (.dat v, none)
  | .dT _ kvs, .tuple ds => (toKeys ds).bind fun k => (valD kvs k).map fun v => (.dat v, none)
  | .lst ts, .int k => (ixO ts.length k).bind fun j => (ts[j]?).bind fun t => match t with
    | .dat d => some (.dat d, none)
    | t => (T.frz t).map fun t' => (t', some (.lst (ts.set j t')))
  | _, _ => none

def cutI {α : Type} (xs : List α) (lo hi : Option Int) : List α := (xs.drop (HT.sIx xs.length 0 lo)).take (HT.sIx xs.length xs.length hi - HT.sIx xs.length 0 lo)
def sliceT : T → Option Int → Option Int → Option T
  | .dat (.list ds), lo, hi => some (freshL (cutI ds lo hi))
  | .dat (.tuple ds), lo, hi => some (.dat (.tuple (cutI ds lo hi)))
  | .scr ns, lo, hi => some (freshL ((cutI ns lo hi).map .int))
  | _, _, _ => none

def smallI (i : Int) : Bool := decide (-(2 ^ 62) ≤ i) && decide (i < 2 ^ 62)
/-- what a method wants, and a store -/
def isL : T → Bool
  | .lst _ => true | _ => false
def isDct : T → Bool
  | .dK _ _ => true | .dT _ _ => true | _ => false
def meK : Me → T → Bool
  | .append, t => isL t | .extend, t => isL t | .pop, t => isL t | .popAt, t => isL t
  | .get1, t => isDct t | .get2, t => isDct t
  | _, _ => false
/-- a method: the thing behind it, and what it hands back -/
def meF : Me → T → List T → Option (T × T)
  | .append, .lst ts, [u] => if ts.length < lineN then some (.lst (ts ++ [u]), .dat .none) else none
  | .extend, .lst ts, [.lst us] => if ts.length + us.length ≤ lineN then some (.lst (ts ++ us), .dat .none) else none
  | .extend, .lst ts, [.dat (.list ds)] => if ts.length + ds.length ≤ lineN then some (.lst (ts ++ ds.map .dat), .dat .none) else none
  | .pop, .lst ts, [] => (ts[ts.length - 1]?).map fun t => (.lst ts.dropLast, t)
  | .popAt, .lst ts, [.dat (.int k)] => if !smallI k then none else (ixO ts.length k).bind fun j => (ts[j]?).map fun t => (.lst (ts.eraseIdx j), t)
  | .get1, .dK b kvs, [.dat d] => (toKey d).map fun k => (.dK b kvs, .dat ((valD kvs k).getD .none))
  | .get1, .dT b kvs, [.dat (.tuple ds)] => (toKeys ds).map fun k => (.dT b kvs, .dat ((valD kvs k).getD .none))
  | .get2, .dK b kvs, [.dat d, .dat e] => (toKey d).map fun k => (.dK b kvs, .dat ((valD kvs k).getD e))
  | .get2, .dT b kvs, [.dat (.tuple ds), .dat e] => (toKeys ds).map fun k => (.dT b kvs, .dat ((valD kvs k).getD e))
  | _, _, _ => none
/-- t[d] = v -/
def storeT : T → D → T → Option T
  | .lst ts, .int k, u => (ixO ts.length k).map fun j => .lst (ts.set j u)
  | .dK false kvs, d, .dat v => (toKey d).bind fun k => if kvs.length < lineN then some (.dK false (putD kvs k v)) else none
  | .dT false kvs, .tuple ds, .dat v => (toKeys ds).bind fun k => if kvs.length < lineN then some (.dT false (putD kvs k v)) else none
  | _, _, _ => none

def rangeD (lo : Int) : Nat → List D
  | 0 => []
  | n + 1 => .int lo :: rangeD (lo + 1) n
def rangeC (lo c : Int) : Nat → List D
  | 0 => []
  | n + 1 => .int lo :: rangeC (lo + c) c n
/-- range(a, b, c): small, so many turns -/
def rangeOk (a b c : Int) : Bool := decide (c ≠ 0) && decide (c.natAbs < 1073741824) && Builtin.Range.small a b c && decide (0 ≤ Builtin.Range.rangeSize a b c)
def rangeN (a b c : Int) : Nat := (Builtin.Range.rangeSize a b c).toNat
def listD : D → Option (List D)
  | .list xs => some xs
  | _ => none
/-- two lists, or two tuples -/
def zipSrc : D → D → Option (List D)
  | .list xs, .list ys => some (zipD xs ys)
  | .tuple xs, .tuple ys => some (zipD xs ys)
  | _, _ => none

/-- the slots of a comprehension's own names hold no owned thing -/
def ownFree (s : S) (own : List Nat) : Bool := own.all fun i => match getS s i with
  | some (.dat _) => true
  | none => true
  | _ => false
def wipeS (s : S) : List Nat → S
  | [] => s
  | i :: is => (wipeS s is).set i none
/-- behind a comprehension: its own names' slots as they were -/
def backS (s s1 : S) : List Nat → S
  | [] => s1
  | i :: is => (backS s s1 is).set i (getS s i)

def forL (asg : D → S → Option S) (body : S → Option R) : List D → S → Option R
  | [], s => some (.nx s)
  | d :: ds, s => (asg d s).bind fun s => match body s with
    | some (.nx s) => forL asg body ds s
    | some (.ct s) => forL asg body ds s
    | some (.bk s) => some (.nx s)
    | some (.rt t s) => some (.rt t s)
    | none => none
def whileL (c : S → Option (Bool × S)) (body : S → Option R) : Nat → S → Option R
  | 0, _ => none
  | n + 1, s => bnd (c s) fun b s => if b then (match body s with
    | some (.nx s) => whileL c body n s
    | some (.ct s) => whileL c body n s
    | some (.bk s) => some (.nx s)
    | some (.rt t s) => some (.rt t s)
    | none => none) else some (.nx s)
/-- the items of a comprehension -/
def compL (asg : D → S → Option S) (test : S → Option (Bool × S)) (elt : S → Option (T × S)) : List D → S → List T → Option (List T × S)
  | [], s, acc => some (acc, s)
  | d :: ds, s, acc => (asg d s).bind fun s => bnd (test s) fun b s => if b then (bnd (elt s) fun t s => if acc.length < lineN then compL asg test elt ds s (acc ++ [t]) else none) else compL asg test elt ds s acc
def seqT : T → Option (List D)
  | .dat d => seqD d
  | _ => none

/-- the locals that are lent, by the written order -/
def lend : As → List T → S → Option (List T × S)
  | .nil, _, s => some ([], s)
  | .ref i as, ts, s => (getS s i).bind fun t => bnd (lend as ts (s.set i none)) fun us s => some (t :: us, s)
  | .val _ as, t :: ts, s => bnd (lend as ts s) fun us s => some (t :: us, s)
  | .val _ _, [], _ => none
def giveBack : As → List (Option T) → S → Option S
  | .nil, _, s => some s
  | .ref i as, u :: us, s => giveBack as us (s.set i u)
  | .val _ as, _ :: us, s => giveBack as us s
  | _, [], _ => none
def patt : As → List Bool
  | .nil => []
  | .ref _ as => true :: patt as
  | .val _ as => false :: patt as

/-! ### the interpreter. C: the calls of defs; refs: which parameters are lent; W: turns that a while may have -/
def dOf (m : Option (T × S)) : Option (D × S) := bnd m fun t s => (T.data t).map fun d => (d, s)
def fOf (m : Option (T × S)) : Option (T × S) := bnd m fun t s => (T.frz t).map fun d => (d, s)
def boolOf (m : Option (T × S)) : Option (Bool × S) := bnd m fun t s => match t with
  | .dat (.bool b) => some (b, s)
  | _ => none
def pureDs : Es → S → Option (List D)
  | .nil, _ => some []
  | .cons e es, s => (pureK e s).bind fun d => (pureDs es s).map fun ds => d :: ds
/-- what stands at a place, and the place behind it -/
def itemAt (p : Pl) (k : D) (s : S) : Option (T × S) := (p.at s).bind fun t => (itemT t k).bind fun (u, t') => match t' with
  | none => some (u, s)
  | some t' => (p.put s t').map fun s => (u, s)
def methAt (m : Me) (p : Pl) (ts : List T) (s : S) : Option (T × S) := (p.at s).bind fun t => (meF m t ts).bind fun (t', u) => (p.put s t').map fun s => (u, s)
def storeAt (p : Pl) (k : D) (u : T) (s : S) : Option S := (p.at s).bind fun t => (storeT t k u).bind fun t' => p.put s t'
def isNone : T → Bool
  | .dat .none => true
  | _ => false
def callWith (C : Nat → List T → Option (T × List (Option T))) (refs : Nat → List Bool) (f : Nat) (as : As) (ts : List T) (s : S) : Option (T × S) :=
  if patt as = refs f then bnd (lend as ts s) fun us s => bnd (C f us) fun t bs => (giveBack as bs s).map fun s => (t, s) else none
def callKW (C : Nat → List T → Option (T × List (Option T))) (refs : Nat → List Bool) (f : Nat) (perm : List Nat) (ts : List T) (s : S) : Option (T × S) :=
  (T.datas ts).bind fun ds => if (refs f).all (fun b => !b) then (perm.mapM fun j => (ds[j]?).map T.dat).bind fun us => bnd (C f us) fun t _ => some (t, s) else none
section
variable (C : Nat → List T → Option (T × List (Option T))) (refs : Nat → List Bool)
mutual
def evalE : E → S → Option (T × S)
  | .var i, s => match getS s i with
    | some (.dat d) => some (.dat d, s)
    | some t => (T.frz t).map fun t' => (t', s.set i (some t'))
    | none => none
  | .mv i, s => (getS s i).map fun t => (t, s.set i none)
  | .int k, s => some (.dat (.int k), s)
  | .bl b, s => some (.dat (.bool b), s)
  | .non, s => some (.dat .none, s)
  | .str x, s => some (.dat (.str x), s)
  | .bin o a b, s => bnd (dOf (evalE a s)) fun x s => bnd (dOf (evalE b s)) fun y s => (binD o x y).map fun t => (t, s)
  | .un o a, s => bnd (dOf (evalE a s)) fun x s => (unD o x).map fun d => (.dat d, s)
  | .and a b, s => bnd (boolOf (evalE a s)) fun c s => if c then evalE b s else some (.dat (.bool false), s)
  | .or a b, s => bnd (boolOf (evalE a s)) fun c s => if c then some (.dat (.bool true), s) else evalE b s
  | .one a, s => evalE a s
  | .cmp o vs, s => bnd (evalVs vs s) fun ts s => (cmpTs o ts).map fun c => (.dat (.bool c), s)
  | .cmp2 o o' a b c, s => bnd (dOf (evalE a s)) fun x s => bnd (dOf (evalE b s)) fun y s => (cmpT o (.dat x) (.dat y)).bind fun k =>
      if k then bnd (dOf (evalE c s)) fun z s => (cmpT o' (.dat y) (.dat z)).map fun k' => (.dat (.bool k'), s) else some (.dat (.bool false), s)
  | .isN a, s => bnd (evalB a s) fun x s => some (.dat (.bool (isNone x)), s)
  | .isnN a, s => bnd (evalB a s) fun x s => some (.dat (.bool (!isNone x)), s)
  | .ife c a b, s => bnd (boolOf (evalE c s)) fun k s => if k then evalE a s else evalE b s
  | .call f as, s => bnd (evalAs as s) fun ts s => callWith C refs f as ts s
  | .callK f np es ks perm, s => bnd (evalEs es s) fun ts s => if ts.length = ks.length then callKW C refs f perm ts s else none
  | .bi f vs, s => bnd (evalVs vs s) fun ts s => (biF f ts).map fun t => (t, s)
  | .tup es, s => bnd (evalEs es s) fun ts s => (T.datas ts).bind fun ds => if ds.length ≤ lineN then some (.dat (.tuple ds), s) else none
  | .lst es, s => bnd (evalEs es s) fun ts s => if ts.length ≤ lineN then some (.lst ts, s) else none
  | .idx b ix, s => match b with
    | .pl p => if p.isVar then (p.at s).bind fun _ => bnd (dOf (evalE ix s)) fun k s => itemAt p k s else (pureK ix s).bind fun k => itemAt p k s
    | .ex e => bnd (fOf (evalE e s)) fun t s => bnd (dOf (evalE ix s)) fun k s => (itemT t k).map fun (u, _) => (u, s)
  | .slc b lo hi, s => match b with
    | .pl p => if p.isVar then (p.at s).bind fun _ => bnd (evalO lo s) fun i s => bnd (evalO hi s) fun j s => (p.look s).bind fun t => (sliceT t i j).map fun t => (t, s)
      else (pureO lo s).bind fun i => (pureO hi s).bind fun j => (p.look s).bind fun t => (sliceT t i j).map fun t => (t, s)
    | .ex e => bnd (fOf (evalE e s)) fun t s => bnd (evalO lo s) fun i s => bnd (evalO hi s) fun j s => (sliceT t i j).map fun t => (t, s)
  | .meth m p es, s => (p.at s).bind fun t => if meK m t then (if p.isVar then bnd (evalEs es s) fun ts s => methAt m p ts s else (pureDs es s).bind fun ds => methAt m p (ds.map .dat) s) else none
  | .comp elt own tg it ifs, s => bnd (evalSrc it s) fun ds s =>
      if ownFree s own then bnd (compL (fun d s => assT tg (.dat d) (wipeS s own)) (evalIfs ifs) (evalE elt) ds s []) fun ts s1 => some (.lst ts, backS s (wipeS s1 own) own) else none
  | .dnew tk, s => some (if tk then .dT false [] else .dK false [], s)
  | .d1 tk k v, s => bnd (dOf (evalE k s)) fun x s => bnd (dOf (evalE v s)) fun y s => if tk then (match x with
      | .tuple ds => (toKeys ds).map fun k => (.dT false [(k, y)], s)
      | _ => none) else (toKey x).map fun k => (.dK false [(k, y)], s)
  | .bad, _ => none
def evalO : Oe → S → Option (Option Int × S)
  | .no, s => some (none, s)
  | .yes e, s => bnd (dOf (evalE e s)) fun d s => (asInt d).map fun k => (some k, s)
def evalEs : Es → S → Option (List T × S)
  | .nil, s => some ([], s)
  | .cons e es, s => bnd (evalE e s) fun t s => bnd (evalEs es s) fun ts s => some (t :: ts, s)
def evalAs : As → S → Option (List T × S)
  | .nil, s => some ([], s)
  | .ref i as, s => (getS s i).bind fun _ => evalAs as s
  | .val e as, s => bnd (fOf (evalE e s)) fun t s => bnd (evalAs as s) fun ts s => some (t :: ts, s)
def evalVs : Vs → S → Option (List T × S)
  | .one a, s => bnd (evalB a s) fun t s => some ([t], s)
  | .two a b, s => match a, b with
    | .ex e, b => bnd (fOf (evalE e s)) fun x s => bnd (evalB b s) fun y s => some ([x, y], s)
    | .pl p, .pl q => (p.look s).bind fun x => (q.look s).map fun y => ([x, y], s)
    | .pl p, .ex e => if p.isVar then (p.at s).bind fun _ => bnd (fOf (evalE e s)) fun y s => (p.look s).map fun x => ([x, y], s)
      else (pureD e s).bind fun y => (p.look s).map fun x => ([x, .dat y], s)
def evalB : Bs → S → Option (T × S)
  | .pl p, s => (p.look s).map fun t => (t, s)
  | .ex e, s => fOf (evalE e s)
def evalIfs : Es → S → Option (Bool × S)
  | .nil, s => some (true, s)
  | .cons e es, s => bnd (boolOf (evalE e s)) fun b s => if b then evalIfs es s else some (false, s)
def evalSrc : Src → S → Option (List D × S)
  | .seq e, s => bnd (dOf (evalE e s)) fun d s => (seqD d).map fun ds => (ds, s)
  | .rng1 a, s => bnd (dOf (evalE a s)) fun x s => (asInt x).bind fun i => if smallI i then some (rangeD 0 i.toNat, s) else none
  | .rng2 a b, s => bnd (dOf (evalE a s)) fun x s => bnd (dOf (evalE b s)) fun y s => (asInt x).bind fun i => (asInt y).bind fun j => if smallI i && smallI j then some (rangeD i (j - i).toNat, s) else none
  | .rng3 a b c, s => bnd (dOf (evalE a s)) fun x s => bnd (dOf (evalE b s)) fun y s => bnd (dOf (evalE c s)) fun z s => (asInt x).bind fun i => (asInt y).bind fun j => (asInt z).bind fun k =>
      if rangeOk i j k then some (rangeC i k (rangeN i j k), s) else none
  | .enum e, s => bnd (dOf (evalE e s)) fun d s => (listD d).map fun ds => (enumD 0 ds, s)
  | .zip a b, s => bnd (dOf (evalE a s)) fun x s => bnd (dOf (evalE b s)) fun y s => (zipSrc x y).map fun ds => (ds, s)
def assT : Tg → T → S → Option S
  | .nm i, t, s => some (s.set i (some t))
  | .tp ts, t, s => match t with
    | .dat (.tuple ds) => assTs ts ds s
    | _ => none
  | .sub p ix, t, s => if p.isVar then (p.at s).bind fun _ => bnd (dOf (evalE ix s)) fun k s => storeAt p k t s else (pureK ix s).bind fun k => storeAt p k t s
def assTs : Tgs → List D → S → Option S
  | .nil, [], s => some s
  | .cons t ts, d :: ds, s => (assT t (.dat d) s).bind fun s => assTs ts ds s
  | _, _, _ => none
end
variable (W : Nat)
mutual
def execS : Cmd → S → Option R
  | .asg t e, s => bnd (evalE C refs e s) fun u s => (assT C refs t u s).map .nx
  | .par i j a b, s => bnd (evalE C refs a s) fun x s => bnd (evalE C refs b s) fun y s => some (.nx ((s.set i (some x)).set j (some y)))
  | .parT i j a b, s => bnd (evalE C refs a s) fun x s => bnd (evalE C refs b s) fun y s => some (.nx ((s.set i (some x)).set j (some y)))
  | .par3 i j k a b c, s => bnd (evalE C refs a s) fun x s => bnd (evalE C refs b s) fun y s => bnd (evalE C refs c s) fun z s => some (.nx (((s.set i (some x)).set j (some y)).set k (some z)))
  | .expr e, s => bnd (evalE C refs e s) fun _ s => some (.nx s)
  | .ife c a b, s => bnd (boolOf (evalE C refs c s)) fun k s => if k then execSs a s else execSs b s
  | .forS t it body, s => bnd (evalSrc C refs it s) fun ds s => forL (fun d s => assT C refs t (.dat d) s) (execSs body) ds s
  | .whil c body, s => whileL (fun s => boolOf (evalE C refs c s)) (execSs body) W s
  | .ret e, s => bnd (evalE C refs e s) fun t s => some (.rt t s)
  | .retN, s => some (.rt (.dat .none) s)
  | .brk, s => some (.bk s)
  | .cont, s => some (.ct s)
  | .pas, s => some (.nx s)
  | .bad, _ => none
def execSs : Cmds → S → Option R
  | .nil, s => some (.nx s)
  | .cons st ss, s => match execS st s with
    | some (.nx s) => execSs ss s
    | r => r
end
end
/-- the slots at a def's entry -/
def entry (n : Nat) (ts : List T) : S := ts.map some ++ List.replicate (n - ts.length) none
/-- what comes back of the lent parameters -/
def finals : List Bool → S → List (Option T)
  | [], _ => []
  | true :: bs, t :: s => t :: finals bs s
  | false :: bs, _ :: s => none :: finals bs s
  | _ :: _, [] => []
structure Prg where
  fns : List Fn
  W : Nat
def refsOf (P : Prg) (f : Nat) : List Bool := match P.fns[f]? with
  | some d => d.refs
  | none => []
/-- the f-th def at these arguments, so deep -/
def run (P : Prg) : Nat → Nat → List T → Option (T × List (Option T))
  | 0, _, _ => none
  | k + 1, f, ts => (P.fns[f]?).bind fun d => if ts.length = d.ps.length then
      (match execSs (run P k) (refsOf P) P.W d.body (entry d.ns.length ts) with
        | some (.rt t s) => some (t, finals d.refs s)
        | some (.nx s) => some (.dat .none, finals d.refs s)
        | _ => none) else none
end Eng

/-! ### Eng1 -/
/-! Eng1: data and owned trees upon the heap. -/
namespace Eng
open PySem PySem.Spec PyProof.Rows L2

mutual
/-- v is the data d, by the part of the heap that is never changed again -/
inductive Rp (F : Hp) : V → D → Prop
  | non : Rp F .non .none
  | bl (b : Bool) : Rp F (.bl b) (.bool b)
  | int (i : Int) : Rp F (.int i) (.int i)
  | str (x : Str) : Rp F (.str x) (.str x)
  | lst {a : Addr} {xs : List V} {ds : List D} : F a = some (.lst xs) → Rps F xs ds → Rp F (.ref a) (.list ds)
  | tup {a : Addr} {xs : List V} {ds : List D} : F a = some (.tup xs) → Rps F xs ds → Rp F (.ref a) (.tuple ds)
inductive Rps (F : Hp) : List V → List D → Prop
  | nil : Rps F [] []
  | cons {v : V} {vs : List V} {d : D} {ds : List D} : Rp F v d → Rps F vs ds → Rps F (v :: vs) (d :: ds)
end

def KVs {κ : Type} (F : Hp) (kvs' : List (κ × V)) (kvs : List (κ × D)) : Prop := Paired (fun (p : κ × V) (q : κ × D) => p.1 = q.1 ∧ Rp F p.2 q.2) kvs' kvs

mutual
inductive Own (K : PySem.W.Frag) (F H : Hp) : V → T → List Addr → Prop
  | dat {v : V} {d : D} : Rp F v d → Own K F H v (.dat d) []
  | lst {a : Addr} {vs : List V} {ts : List T} {f : List Addr} : H a = some (.lst vs) → F a = none → Owns K F H vs ts f → Own K F H (.ref a) (.lst ts) (a :: f)
  | dK {a : Addr} {kvs' : List (Key × V)} {kvs : List (Key × D)} : H a = some (.dK kvs') → F a = none → KVs F kvs' kvs → Own K F H (.ref a) (.dK false kvs) [a]
  | dKf {a : Addr} {kvs' : List (Key × V)} {kvs : List (Key × D)} : F a = some (.dK kvs') → KVs F kvs' kvs → Own K F H (.ref a) (.dK true kvs) []
  | dT {a : Addr} {kvs' : List (List Key × V)} {kvs : List (List Key × D)} : H a = some (.dT kvs') → F a = none → KVs F kvs' kvs → Own K F H (.ref a) (.dT false kvs) [a]
  | dTf {a : Addr} {kvs' : List (List Key × V)} {kvs : List (List Key × D)} : F a = some (.dT kvs') → KVs F kvs' kvs → Own K F H (.ref a) (.dT true kvs) []
  | scr {a : Addr} {ns : List Int} : SqL K F a (ns.map V.int) → Own K F H (.ref a) (.scr ns) []
inductive Owns (K : PySem.W.Frag) (F H : Hp) : List V → List T → List Addr → Prop
  | nil : Owns K F H [] [] []
  | cons {v : V} {vs : List V} {t : T} {ts : List T} {f g : List Addr} : Own K F H v t f → Owns K F H vs ts g → Owns K F H (v :: vs) (t :: ts) (f ++ g)
end

section
variable {K : PySem.W.Frag} {F F' H H' : Hp}
theorem Rps.len : ∀ {vs : List V} {ds : List D}, Rps F vs ds → vs.length = ds.length
  | _, _, .nil => rfl
  | _, _, .cons _ t => by simp [Rps.len t]
theorem Owns.len : ∀ {vs : List V} {ts : List T} {f : List Addr}, Owns K F H vs ts f → vs.length = ts.length
  | _, _, _, .nil => rfl
  | _, _, _, .cons _ t => by simp [Owns.len t]
mutual
theorem Rp.mono (s : Same F F') : ∀ {v : V} {d : D}, Rp F v d → Rp F' v d
  | _, _, .non => .non
  | _, _, .bl b => .bl b
  | _, _, .int i => .int i
  | _, _, .str x => .str x
  | _, _, .lst e r => .lst (s _ _ e) (Rps.mono s r)
  | _, _, .tup e r => .tup (s _ _ e) (Rps.mono s r)
theorem Rps.mono (s : Same F F') : ∀ {vs : List V} {ds : List D}, Rps F vs ds → Rps F' vs ds
  | _, _, .nil => .nil
  | _, _, .cons a t => .cons (Rp.mono s a) (Rps.mono s t)
end
mutual
theorem Rp.dp (s : Same F H) : ∀ {v : V} {d : D}, Rp F v d → Dp K H v d
  | _, _, .non => .non
  | _, _, .bl b => .bl b
  | _, _, .int i => .int i
  | _, _, .str x => .str x
  | _, _, .lst e r => .lst (SqL.of (s _ _ e)) (Rps.dp s r)
  | _, _, .tup e r => .tup (SqT.of (s _ _ e)) (Rps.dp s r)
theorem Rps.dp (s : Same F H) : ∀ {vs : List V} {ds : List D}, Rps F vs ds → DpAll K H vs ds
  | _, _, .nil => .nil
  | _, _, .cons a t => .cons (Rp.dp s a) (Rps.dp s t)
end
theorem Rps.get : ∀ {vs : List V} {ds : List D} {j : Nat} {d : D}, Rps F vs ds → ds[j]? = some d → ∃ v, vs[j]? = some v ∧ Rp F v d
  | _, _, _, _, .nil, e => by simp at e
  | _, _, 0, _, .cons r _, e => by simp at e; subst e; exact ⟨_, rfl, r⟩
  | _, _, j + 1, d, .cons _ t, e => by
    obtain ⟨v, h1, h2⟩ := Rps.get (j := j) (d := d) t (by simpa using e)
    exact ⟨v, by simpa using h1, h2⟩
theorem Rps.get' : ∀ {vs : List V} {ds : List D} {j : Nat} {v : V}, Rps F vs ds → vs[j]? = some v → ∃ d, ds[j]? = some d ∧ Rp F v d
  | _, _, _, _, .nil, e => by simp at e
  | _, _, 0, _, .cons r _, e => by simp at e; subst e; exact ⟨_, rfl, r⟩
  | _, _, j + 1, d, .cons _ t, e => by
    obtain ⟨v, h1, h2⟩ := Rps.get' (j := j) (v := d) t (by simpa using e)
    exact ⟨v, by simpa using h1, h2⟩
theorem Rps.app : ∀ {vs ws : List V} {ds es : List D}, Rps F vs ds → Rps F ws es → Rps F (vs ++ ws) (ds ++ es)
  | _, _, _, _, .nil, s => s
  | _, _, _, _, .cons r t, s => .cons r (Rps.app t s)
theorem Rps.take : ∀ {vs : List V} {ds : List D} (n : Nat), Rps F vs ds → Rps F (vs.take n) (ds.take n)
  | _, _, 0, _ => .nil
  | _, _, _ + 1, .nil => .nil
  | _, _, n + 1, .cons r t => .cons r (Rps.take n t)
theorem Rps.drop : ∀ {vs : List V} {ds : List D} (n : Nat), Rps F vs ds → Rps F (vs.drop n) (ds.drop n)
  | _, _, 0, r => r
  | _, _, _ + 1, .nil => .nil
  | _, _, n + 1, .cons _ t => Rps.drop n t
theorem Rps.rev {vs : List V} {ds : List D} (r : Rps F vs ds) : Rps F vs.reverse ds.reverse := by
  induction vs generalizing ds with
  | nil => cases r; exact .nil
  | cons v vs ih =>
    cases r with
    | cons a t => rw [List.reverse_cons, List.reverse_cons]; exact Rps.app (ih t) (.cons a .nil)
theorem Rps.ints : ∀ {vs : List V} {ds : List D} {is : List Int}, Rps F vs ds → intsOf ds = some is → vs = is.map V.int ∧ ds = is.map PyData.int
  | _, _, _, .nil, e => by simp [intsOf] at e; subst e; exact ⟨rfl, rfl⟩
  | _, _, is, .cons (d := d) (ds := ds) r t, e => by
    cases r with
    | int i =>
      unfold intsOf at e
      obtain ⟨js, e1, e2⟩ := Option.map_eq_some_iff.mp e
      subst e2
      obtain ⟨h1, h2⟩ := Rps.ints t e1
      exact ⟨by rw [h1]; rfl, by rw [h2]; rfl⟩
    | _ => simp [intsOf] at e
theorem Rps.bools : ∀ {vs : List V} {ds : List D} {is : List Bool}, Rps F vs ds → boolsOf ds = some is → vs = is.map V.bl ∧ ds = is.map PyData.bool
  | _, _, _, .nil, e => by simp [boolsOf] at e; subst e; exact ⟨rfl, rfl⟩
  | _, _, is, .cons (d := d) (ds := ds) r t, e => by
    cases r with
    | bl i =>
      unfold boolsOf at e
      obtain ⟨js, e1, e2⟩ := Option.map_eq_some_iff.mp e
      subst e2
      obtain ⟨h1, h2⟩ := Rps.bools t e1
      exact ⟨by rw [h1]; rfl, by rw [h2]; rfl⟩
    | _ => simp [boolsOf] at e
theorem Rps.ofInts (is : List Int) : Rps F (is.map V.int) (is.map PyData.int) := by
  induction is with
  | nil => exact .nil
  | cons i is ih => exact .cons (.int i) ih
theorem KVs.mono {κ : Type} (s : Same F F') {a : List (κ × V)} {b : List (κ × D)} (r : KVs F a b) : KVs F' a b := by
  unfold KVs at *
  exact Paired.mapP r fun p q h => ⟨h.1, h.2.mono s⟩

/-! ### footprints -/
mutual
theorem Own.has : ∀ {v : V} {t : T} {f : List Addr}, Own K F H v t f → ∀ a ∈ f, F a = none ∧ ∃ o, H a = some o ∧ Mut (some o)
  | _, _, _, .dat _, _, h => by cases h
  | _, _, _, .lst e n os, a, h => by
    rcases List.mem_cons.mp h with rfl | h
    · exact ⟨n, _, e, trivial⟩
    · exact Owns.has os a h
  | _, _, _, .dK e n _, a, h => by
    rcases List.mem_cons.mp h with rfl | h
    · exact ⟨n, _, e, trivial⟩
    · cases h
  | _, _, _, .dKf _ _, _, h => by cases h
  | _, _, _, .dT e n _, a, h => by
    rcases List.mem_cons.mp h with rfl | h
    · exact ⟨n, _, e, trivial⟩
    · cases h
  | _, _, _, .dTf _ _, _, h => by cases h
  | _, _, _, .scr _, _, h => by cases h
theorem Owns.has : ∀ {vs : List V} {ts : List T} {f : List Addr}, Owns K F H vs ts f → ∀ a ∈ f, F a = none ∧ ∃ o, H a = some o ∧ Mut (some o)
  | _, _, _, .nil, _, h => by cases h
  | _, _, _, .cons r t, a, h => by
    rcases List.mem_append.mp h with h | h
    · exact Own.has r a h
    · exact Owns.has t a h
end

/-- what stands at f stays, and is not said to be fixed -/
structure Keeps (F H F' H' : Hp) (f : List Addr) : Prop where
  ff : Same F F'
  at_ : ∀ a ∈ f, H' a = H a ∧ F' a = none
theorem Keeps.sub {f g : List Addr} (k : Keeps F H F' H' f) (h : ∀ a ∈ g, a ∈ f) : Keeps F H F' H' g := ⟨k.ff, fun a m => k.at_ a (h a m)⟩
mutual
theorem Own.keep : ∀ {v : V} {t : T} {f : List Addr}, Own K F H v t f → Keeps F H F' H' f → Own K F' H' v t f
  | _, _, _, .dat r, k => .dat (r.mono k.ff)
  | _, _, _, .lst (a := a) e n os, k => .lst (by rw [(k.at_ a (by simp)).1]; exact e) (k.at_ a (by simp)).2 (Owns.keep os (k.sub fun b h => List.mem_cons_of_mem _ h))
  | _, _, _, .dK (a := a) e n r, k => .dK (by rw [(k.at_ a (by simp)).1]; exact e) (k.at_ a (by simp)).2 (r.mono k.ff)
  | _, _, _, .dKf e r, k => .dKf (k.ff _ _ e) (r.mono k.ff)
  | _, _, _, .dT (a := a) e n r, k => .dT (by rw [(k.at_ a (by simp)).1]; exact e) (k.at_ a (by simp)).2 (r.mono k.ff)
  | _, _, _, .dTf e r, k => .dTf (k.ff _ _ e) (r.mono k.ff)
  | _, _, _, .scr q, k => .scr (k.ff.seq q)
theorem Owns.keep : ∀ {vs : List V} {ts : List T} {f : List Addr}, Owns K F H vs ts f → Keeps F H F' H' f → Owns K F' H' vs ts f
  | _, _, _, .nil, _ => .nil
  | _, _, _, .cons r t, k => .cons (Own.keep r (k.sub fun a h => List.mem_append_left _ h)) (Owns.keep t (k.sub fun a h => List.mem_append_right _ h))
end

/-! ### what is frozen -/
def addF (F H : Hp) (f : List Addr) : Hp := fun a => if a ∈ f then H a else F a
theorem addF_same {f : List Addr} (n : ∀ a ∈ f, F a = none) : Same F (addF F H f) := fun a o e => by
  unfold addF
  by_cases h : a ∈ f
  · rw [n a h] at e; cases e
  · rw [if_neg h]; exact e
theorem addF_in {f : List Addr} {a : Addr} (h : a ∈ f) : addF F H f a = H a := if_pos h
theorem addF_out {f : List Addr} {a : Addr} (h : a ∉ f) : addF F H f a = F a := if_neg h
theorem addF_heap {f : List Addr} (s : Same F H) : Same (addF F H f) H := fun a o e => by
  unfold addF at e
  by_cases h : a ∈ f
  · rw [if_pos h] at e; exact e
  · rw [if_neg h] at e; exact s _ _ e
mutual
theorem Own.data : ∀ {v : V} {t : T} {f : List Addr} {d : D}, Own K F H v t f → T.data t = some d → ∀ {G : Hp}, Same F G → (∀ a ∈ f, G a = H a) → Rp G v d
  | _, _, _, d, .dat r, e, G, s, _ => by
    unfold T.data at e
    cases e
    exact r.mono s
  | _, _, _, d, .lst (a := a) eh n os, e, G, s, g => by
    unfold T.data at e
    obtain ⟨ds, e1, e2⟩ := Option.map_eq_some_iff.mp e
    subst e2
    exact .lst (by rw [g a (by simp)]; exact eh) (Owns.data os e1 s fun b h => g b (List.mem_cons_of_mem _ h))
  | _, _, _, d, .dK _ _ _, e, G, s, _ => by simp [T.data] at e
  | _, _, _, d, .dKf _ _, e, G, s, _ => by simp [T.data] at e
  | _, _, _, d, .dT _ _ _, e, G, s, _ => by simp [T.data] at e
  | _, _, _, d, .dTf _ _, e, G, s, _ => by simp [T.data] at e
  | _, _, _, d, .scr _, e, G, s, _ => by simp [T.data] at e
theorem Owns.data : ∀ {vs : List V} {ts : List T} {f : List Addr} {ds : List D}, Owns K F H vs ts f → T.datas ts = some ds → ∀ {G : Hp}, Same F G → (∀ a ∈ f, G a = H a) → Rps G vs ds
  | _, _, _, ds, .nil, e, G, _, _ => by
    unfold T.datas at e
    cases e
    exact .nil
  | _, _, _, ds, .cons r t, e, G, s, g => by
    unfold T.datas at e
    obtain ⟨d, e1, e2⟩ := Option.bind_eq_some_iff.mp e
    obtain ⟨ds', e3, e4⟩ := Option.map_eq_some_iff.mp e2
    subst e4
    exact .cons (Own.data r e1 s fun a h => g a (List.mem_append_left _ h)) (Owns.data t e3 s fun a h => g a (List.mem_append_right _ h))
end
theorem Own.frz {v : V} {t u : T} {f : List Addr} (o : Own K F H v t f) (e : T.frz t = some u) {G : Hp} (s : Same F G) (g : ∀ a ∈ f, G a = H a) : Own K G H v u [] := by
  cases o with
  | dat r => simp only [T.frz, Option.some.injEq] at e; subst e; exact .dat (r.mono s)
  | lst eh n os =>
    unfold T.frz at e
    obtain ⟨d, e1, e2⟩ := Option.map_eq_some_iff.mp e
    subst e2
    exact .dat (Own.data (Own.lst eh n os) e1 s g)
  | dK eh n r => simp only [T.frz, Option.some.injEq] at e; subst e; exact .dKf (by rw [g _ (by simp)]; exact eh) (r.mono s)
  | dKf eh r => simp only [T.frz, Option.some.injEq] at e; subst e; exact .dKf (s _ _ eh) (r.mono s)
  | dT eh n r => simp only [T.frz, Option.some.injEq] at e; subst e; exact .dTf (by rw [g _ (by simp)]; exact eh) (r.mono s)
  | dTf eh r => simp only [T.frz, Option.some.injEq] at e; subst e; exact .dTf (s _ _ eh) (r.mono s)
  | scr q => simp only [T.frz, Option.some.injEq] at e; subst e; exact .scr (s.seq q)
theorem Own.dat_inv {v : V} {d : D} {f : List Addr} (o : Own K F H v (.dat d) f) : f = [] ∧ Rp F v d := by
  cases o with
  | dat r => exact ⟨rfl, r⟩

/-! ### a step: from the fixed part F and the heap H with the owned things at f -/
structure Step (F H : Hp) (f : List Addr) (F' H' : Hp) (f' : List Addr) : Prop where
  ff : Same F F'
  fh : Same F' H'
  keep : ∀ a o, a ∉ f → H a = some o → H' a = some o
  new : ∀ a o, F' a = some o → F a = none → a ∈ f ∨ H a = none ∨ ∃ xs, H a = some (.tup xs)
  fps : ∀ a ∈ f', a ∈ f ∨ H a = none
theorem Step.refl {f : List Addr} (s : Same F H) : Step F H f F H f := ⟨Same.refl _, s, fun _ _ _ e => e, fun a o e n => (by rw [n] at e; cases e), fun a h => Or.inl h⟩
theorem Step.trans {F1 H1 : Hp} {f f1 f2 : List Addr} (a : Step F H f F1 H1 f1) (b : Step F1 H1 f1 F' H' f2) : Step F H f F' H' f2 := by
  refine ⟨a.ff.trans b.ff, b.fh, fun c o n e => ?_, fun c o e n => ?_, fun c h => ?_⟩
  · refine b.keep c o (fun h => ?_) (a.keep c o n e)
    rcases a.fps c h with h | h
    · exact n h
    · rw [h] at e; cases e
  · cases q : F1 c with
    | some u => exact a.new c u q n
    | none =>
      rcases b.new c o e q with h | h | ⟨xs, h⟩
      · exact (a.fps c h).imp id .inl
      · by_cases hc : c ∈ f
        · exact .inl hc
        · refine .inr (.inl ?_)
          cases r : H c with
          | none => rfl
          | some u => rw [a.keep c u hc r] at h; cases h
      · by_cases hc : c ∈ f
        · exact .inl hc
        · refine .inr ?_
          cases r : H c with
          | none => exact .inl rfl
          | some u => exact .inr ⟨xs, by rw [a.keep c u hc r] at h; exact h⟩
  · rcases b.fps c h with h | h
    · exact a.fps c h
    · by_cases hc : c ∈ f
      · exact .inl hc
      · refine .inr ?_
        cases r : H c with
        | none => rfl
        | some u => rw [a.keep c u hc r] at h; cases h
theorem Step.mono {f f' g g' : List Addr} (a : Step F H f F' H' f') (h : ∀ b ∈ f, b ∈ g) (h' : ∀ b ∈ g', b ∈ f') : Step F H g F' H' g' :=
  ⟨a.ff, a.fh, fun c o n e => a.keep c o (fun m => n (h c m)) e, fun c o e n => (a.new c o e n).imp (h c) id, fun c m => (a.fps c (h' c m)).imp (h c) id⟩
/-- what is owned elsewhere stays -/
theorem Step.keeps {f f' g : List Addr} (a : Step F H f F' H' f') (d : ∀ b ∈ g, b ∉ f) (n : ∀ b ∈ g, F b = none ∧ ∃ o, H b = some o ∧ Mut (some o)) : Keeps F H F' H' g := by
  refine ⟨a.ff, fun b hb => ?_⟩
  obtain ⟨n1, o, ho, mu⟩ := n b hb
  refine ⟨by rw [ho]; exact a.keep b o (d b hb) ho, ?_⟩
  cases q : F' b with
  | none => rfl
  | some u =>
    rcases a.new b u q n1 with h | h | ⟨xs, h⟩
    · exact absurd h (d b hb)
    · rw [ho] at h; cases h
    · rw [ho] at h; cases h; exact mu.elim
theorem Step.apart {f f' g : List Addr} (a : Step F H f F' H' f') (d : ∀ b ∈ g, b ∉ f) (n : ∀ b ∈ g, ∃ o, H b = some o) : ∀ b ∈ g, b ∉ f' := fun b hb h => by
  obtain ⟨o, ho⟩ := n b hb
  rcases a.fps b h with h | h
  · exact d b hb h
  · rw [ho] at h; cases h
theorem Step.frame {f f' : List Addr} (a : Step F H f F' H' f') (g : List Addr) : Step F H (g ++ f) F' H' (g ++ f') :=
  ⟨a.ff, a.fh, fun c o n e => a.keep c o (fun m => n (List.mem_append_right _ m)) e, fun c o e n => (a.new c o e n).imp (fun m => List.mem_append_right _ m) id, fun c m => by
    rcases List.mem_append.mp m with m | m
    · exact .inl (List.mem_append_left _ m)
    · exact (a.fps c m).imp (fun m => List.mem_append_right _ m) id⟩
/-- a new fixed object -/
theorem Step.newF {f : List Addr} {p : Addr} {o : HO} (s : Same F H) (n : H p = none) (hf : ∀ a ∈ f, ∃ o, H a = some o) : Step F H f (upd F p o) (upd H p o) f := by
  have nF : F p = none := s.free n
  refine ⟨fun a u e => ?_, fun a u e => ?_, fun a u _ e => ?_, fun a u e q => ?_, fun a h => .inl h⟩
  · rw [upd_ne (ne_of_none e nF)]; exact e
  · by_cases h : a = p
    · subst h; rw [upd_same] at e ⊢; exact e
    · rw [upd_ne h] at e ⊢; exact s _ _ e
  · rw [upd_ne (ne_of_none e n)]; exact e
  · by_cases h : a = p
    · subst h; exact .inr (.inl n)
    · rw [upd_ne h, q] at e; cases e
/-- a new owned object -/
theorem Step.newO {f : List Addr} {p : Addr} {o : HO} (s : Same F H) (n : H p = none) : Step F H f F (upd H p o) (p :: f) := by
  have nF : F p = none := s.free n
  refine ⟨Same.refl _, fun a u e => ?_, fun a u _ e => ?_, fun a u e q => ?_, fun a h => ?_⟩
  · rw [upd_ne (ne_of_none e nF)]; exact s _ _ e
  · rw [upd_ne (ne_of_none e n)]; exact e
  · rw [q] at e; cases e
  · rcases List.mem_cons.mp h with rfl | h
    · exact .inr n
    · exact .inl h
/-- an owned object is changed -/
theorem Step.set {f : List Addr} {p : Addr} {o : HO} (s : Same F H) (hp : p ∈ f) (n : F p = none) : Step F H f F (upd H p o) f := by
  refine ⟨Same.refl _, fun a u e => ?_, fun a u m e => ?_, fun a u e q => ?_, fun a h => .inl h⟩
  · rw [upd_ne (ne_of_none e n)]; exact s _ _ e
  · rw [upd_ne (fun h : a = p => m (by rw [h]; exact hp))]; exact e
  · rw [q] at e; cases e
/-- owned objects are fixed -/
theorem Step.fix {f g : List Addr} (s : Same F H) (n : ∀ a ∈ f, F a = none) : Step F H (f ++ g) (addF F H f) H g := by
  refine ⟨addF_same n, addF_heap s, fun _ _ _ e => e, fun a o e q => ?_, fun a h => .inl (List.mem_append_right _ h)⟩
  by_cases h : a ∈ f
  · exact .inl (List.mem_append_left _ h)
  · rw [addF_out h, q] at e; cases e
/-- tuples are fixed anyway -/
theorem Step.tups {f bs : List Addr} (s : Same F H) (h : ∀ b ∈ bs, ∃ xs, H b = some (.tup xs)) : Step F H f (addF F H bs) H f := by
  refine ⟨fun a o e => ?_, addF_heap s, fun _ _ _ e => e, fun a o e q => ?_, fun a m => .inl m⟩
  · unfold addF
    by_cases m : a ∈ bs
    · rw [if_pos m]; exact s _ _ e
    · rw [if_neg m]; exact e
  · by_cases m : a ∈ bs
    · exact .inr (.inr (h a m))
    · rw [addF_out m, q] at e; cases e
end
end Eng

/-! ### Eng2 -/
/-! Eng2: the slots, things at places. -/
namespace Eng
open PySem PySem.Spec PyProof.Rows L2

/-- the slots' values, what the interpreter holds of them, all that is owned -/
inductive Sls0 (K : PySem.W.Frag) (F H : Hp) : St → S → List Addr → Prop
  | nil : Sls0 K F H [] [] []
  | none {x : Option V} {σ : St} {s : S} {f : List Addr} : Sls0 K F H σ s f → Sls0 K F H (x :: σ) (Option.none :: s) f
  | some {v : V} {t : T} {σ : St} {s : S} {f g : List Addr} : Own K F H v t f → Sls0 K F H σ s g → Sls0 K F H (Option.some v :: σ) (Option.some t :: s) (f ++ g)
structure Sls (K : PySem.W.Frag) (F H : Hp) (σ : St) (s : S) (f : List Addr) : Prop where
  ex : ∃ g, Sls0 K F H σ s g ∧ g.Perm f
section
variable {K : PySem.W.Frag} {F F' H H' : Hp}
theorem Sls0.len : ∀ {σ : St} {s : S} {f : List Addr}, Sls0 K F H σ s f → σ.length = s.length
  | _, _, _, .nil => rfl
  | _, _, _, .none t => by simp [Sls0.len t]
  | _, _, _, .some _ t => by simp [Sls0.len t]
theorem Sls0.has : ∀ {σ : St} {s : S} {f : List Addr}, Sls0 K F H σ s f → ∀ a ∈ f, F a = Option.none ∧ ∃ o, H a = Option.some o ∧ Mut (Option.some o)
  | _, _, _, .nil, _, h => by cases h
  | _, _, _, .none t, a, h => Sls0.has t a h
  | _, _, _, .some r t, a, h => by
    rcases List.mem_append.mp h with h | h
    · exact r.has a h
    · exact Sls0.has t a h
theorem Sls0.keep : ∀ {σ : St} {s : S} {f : List Addr}, Sls0 K F H σ s f → Keeps F H F' H' f → Sls0 K F' H' σ s f
  | _, _, _, .nil, _ => .nil
  | _, _, _, .none t, k => .none (Sls0.keep t k)
  | _, _, _, .some r t, k => .some (r.keep (k.sub fun a h => List.mem_append_left _ h)) (Sls0.keep t (k.sub fun a h => List.mem_append_right _ h))
theorem getS_cons {x : Option T} {s : S} {i : Nat} : getS (x :: s) (i + 1) = getS s i := by simp [getS]
/-- a slot's thing is taken out -/
theorem Sls0.take : ∀ {σ : St} {s : S} {f : List Addr} {i : Nat} {t : T}, Sls0 K F H σ s f → getS s i = Option.some t →
    ∃ v g h, σ[i]? = Option.some (Option.some v) ∧ Own K F H v t g ∧ Sls0 K F H σ (s.set i Option.none) h ∧ f.Perm (g ++ h)
  | _, _, _, i, t, .nil, e => by simp [getS] at e
  | _, _, _, 0, t, .none _, e => by simp [getS] at e
  | _, _, _, i + 1, t, .none r, e => by
    rw [getS_cons] at e
    obtain ⟨v, g, h, h1, h2, h3, h4⟩ := Sls0.take r e
    exact ⟨v, g, h, by simpa using h1, h2, .none h3, h4⟩
  | _, _, _, 0, t, .some (t := u) (f := f) (g := g) r q, e => by
    have : u = t := by simpa [getS] using e
    subst this
    exact ⟨_, f, g, rfl, r, .none q, List.Perm.refl _⟩
  | _, _, _, i + 1, t, .some (f := f1) (g := g1) r q, e => by
    rw [getS_cons] at e
    obtain ⟨v, g, h, h1, h2, h3, h4⟩ := Sls0.take q e
    refine ⟨v, g, f1 ++ h, by simpa using h1, h2, .some r h3, ?_⟩
    refine (List.Perm.append_left f1 h4).trans ?_
    rw [← List.append_assoc, ← List.append_assoc]
    exact List.Perm.append_right h List.perm_append_comm
/-- a thing is put into a slot that held nothing -/
theorem Sls0.put : ∀ {σ : St} {s : S} {h g : List Addr} {i : Nat} {v : V} {t : T}, Sls0 K F H σ s h → getS s i = Option.none → i < s.length → Own K F H v t g →
    ∃ f, Sls0 K F H (σ.set i (Option.some v)) (s.set i (Option.some t)) f ∧ f.Perm (g ++ h)
  | _, _, _, _, i, v, t, .nil, e, l, _ => by simp at l
  | _, _, h, g, 0, v, t, .none r, e, l, o => ⟨g ++ h, .some o r, List.Perm.refl _⟩
  | _, _, _, g, i + 1, v, t, .none r, e, l, o => by
    rw [getS_cons] at e
    obtain ⟨f, h1, h2⟩ := Sls0.put r e (by simpa using l) o
    exact ⟨f, .none h1, h2⟩
  | _, _, _, g, 0, v, t, .some r q, e, l, o => by simp [getS] at e
  | _, _, _, g, i + 1, v, t, .some (f := f1) (g := g1) r q, e, l, o => by
    rw [getS_cons] at e
    obtain ⟨f, h1, h2⟩ := Sls0.put q e (by simpa using l) o
    refine ⟨f1 ++ f, .some r h1, (List.Perm.append_left f1 h2).trans ?_⟩
    rw [← List.append_assoc, ← List.append_assoc]
    exact List.Perm.append_right _ List.perm_append_comm
/-- what a slot held is forgotten; its value may change -/
theorem Sls0.drop : ∀ {σ : St} {s : S} {f : List Addr} (i : Nat) (x : Option V), Sls0 K F H σ s f → ∃ h g, Sls0 K F H (σ.set i x) (s.set i Option.none) h ∧ f.Perm (g ++ h)
  | _, _, _, i, x, .nil => ⟨[], [], .nil, List.Perm.refl _⟩
  | _, _, f, 0, x, .none r => ⟨f, [], .none r, List.Perm.refl _⟩
  | _, _, _, i + 1, x, .none r => by
    obtain ⟨h, g, h1, h2⟩ := Sls0.drop i x r
    exact ⟨h, g, .none h1, h2⟩
  | _, _, _, 0, x, .some (f := f1) (g := g1) r q => ⟨g1, f1, .none q, List.Perm.refl _⟩
  | _, _, _, i + 1, x, .some (f := f1) (g := g1) r q => by
    obtain ⟨h, g, h1, h2⟩ := Sls0.drop i x q
    refine ⟨f1 ++ h, g, .some r h1, (List.Perm.append_left f1 h2).trans ?_⟩
    rw [← List.append_assoc, ← List.append_assoc]
    exact List.Perm.append_right _ List.perm_append_comm

theorem Sls.perm {σ : St} {s : S} {f g : List Addr} (h : Sls K F H σ s f) (p : f.Perm g) : Sls K F H σ s g := by
  obtain ⟨x, h1, h2⟩ := h.ex
  exact ⟨x, h1, h2.trans p⟩
theorem Sls.len {σ : St} {s : S} {f : List Addr} (h : Sls K F H σ s f) : σ.length = s.length := by
  obtain ⟨x, h1, _⟩ := h.ex
  exact h1.len
theorem Sls.has {σ : St} {s : S} {f : List Addr} (h : Sls K F H σ s f) : ∀ a ∈ f, F a = Option.none ∧ ∃ o, H a = Option.some o ∧ Mut (Option.some o) := by
  obtain ⟨x, h1, h2⟩ := h.ex
  exact fun a ha => h1.has a (h2.mem_iff.mpr ha)
theorem Sls.keep {σ : St} {s : S} {f : List Addr} (h : Sls K F H σ s f) (k : Keeps F H F' H' f) : Sls K F' H' σ s f := by
  obtain ⟨x, h1, h2⟩ := h.ex
  exact ⟨x, h1.keep (k.sub fun a m => h2.mem_iff.mp m), h2⟩
theorem Sls.take {σ : St} {s : S} {f : List Addr} {i : Nat} {t : T} (h : Sls K F H σ s f) (e : getS s i = Option.some t) :
    ∃ v g r, σ[i]? = Option.some (Option.some v) ∧ Own K F H v t g ∧ Sls K F H σ (s.set i Option.none) r ∧ f.Perm (g ++ r) := by
  obtain ⟨x, h1, h2⟩ := h.ex
  obtain ⟨v, g, r, q1, q2, q3, q4⟩ := h1.take e
  exact ⟨v, g, r, q1, q2, ⟨r, q3, List.Perm.refl _⟩, h2.symm.trans q4⟩
theorem getS_lt {s : S} {i : Nat} {t : T} (e : getS s i = Option.some t) : i < s.length := by
  unfold getS at e
  rw [List.getD_eq_getElem?_getD] at e
  by_cases h : i < s.length
  · exact h
  · rw [List.getElem?_eq_none (by omega)] at e; simp at e
theorem getS_set_none {s : S} {i : Nat} : getS (s.set i Option.none) i = Option.none := by
  unfold getS
  rw [List.getD_eq_getElem?_getD]
  by_cases h : i < s.length
  · rw [List.getElem?_set_self h]; rfl
  · rw [List.getElem?_eq_none (by rw [List.length_set]; omega)]; rfl
theorem set_self {σ : St} {i : Nat} {v : V} (e : σ[i]? = Option.some (Option.some v)) : σ.set i (Option.some v) = σ := by
  apply List.ext_getElem?
  intro j
  by_cases h : i = j
  · subst h
    obtain ⟨h1, h2⟩ := List.getElem?_eq_some_iff.mp e
    rw [List.getElem?_set_self h1, e]
  · rw [List.getElem?_set_ne h]
theorem Sls.put {σ : St} {s : S} {r g : List Addr} {i : Nat} {v : V} {t : T} (h : Sls K F H σ s r) (e : getS s i = Option.none) (l : i < s.length) (o : Own K F H v t g) :
    Sls K F H (σ.set i (Option.some v)) (s.set i (Option.some t)) (g ++ r) := by
  obtain ⟨x, h1, h2⟩ := h.ex
  obtain ⟨f, q1, q2⟩ := h1.put e l o
  exact ⟨f, q1, q2.trans (List.Perm.append_left g h2)⟩
/-- the same thing with another tree goes back to its slot -/
theorem Sls.back {σ : St} {s : S} {r g : List Addr} {i : Nat} {v : V} {t : T} (h : Sls K F H σ (s.set i Option.none) r) (e : σ[i]? = Option.some (Option.some v)) (o : Own K F H v t g) :
    Sls K F H σ (s.set i (Option.some t)) (g ++ r) := by
  have hl : i < s.length := by
    have := h.len
    rw [List.length_set] at this
    obtain ⟨h1, _⟩ := List.getElem?_eq_some_iff.mp e
    omega
  have q := h.put getS_set_none (by rw [List.length_set]; exact hl) o
  rw [set_self e, List.set_set] at q
  exact q
theorem Sls.drop {σ : St} {s : S} {f : List Addr} (i : Nat) (x : Option V) (h : Sls K F H σ s f) : ∃ r g, Sls K F H (σ.set i x) (s.set i Option.none) r ∧ f.Perm (g ++ r) := by
  obtain ⟨y, h1, h2⟩ := h.ex
  obtain ⟨r, g, q1, q2⟩ := h1.drop i x
  exact ⟨r, g, ⟨r, q1, List.Perm.refl _⟩, h2.symm.trans q2⟩

/-- THE RELATION between the machine's state and the interpreter's -/
structure Rel (K : PySem.W.Frag) (F H : Hp) (σ : St) (s : S) (f : List Addr) : Prop where
  same : Same F H
  sl : Sls K F H σ s f
  nd : f.Nodup
theorem Rel.has {σ : St} {s : S} {f : List Addr} (r : Rel K F H σ s f) : ∀ a ∈ f, F a = Option.none ∧ ∃ o, H a = Option.some o ∧ Mut (Option.some o) := fun a h => r.sl.has a h
theorem Rel.perm {σ : St} {s : S} {f g : List Addr} (r : Rel K F H σ s f) (p : f.Perm g) : Rel K F H σ s g := ⟨r.same, r.sl.perm p, p.nodup_iff.mp r.nd⟩
theorem nd_apart {f g : List Addr} (h : (f ++ g).Nodup) : ∀ b ∈ g, b ∉ f := fun b hb hf => (List.nodup_append.mp h).2.2 b hf b hb rfl
theorem nd_apart' {f g : List Addr} (h : (f ++ g).Nodup) : ∀ b ∈ f, b ∉ g := fun b hb hf => (List.nodup_append.mp h).2.2 b hb b hf rfl
theorem nd_app {f g : List Addr} (h1 : f.Nodup) (h2 : g.Nodup) (h : ∀ b ∈ f, b ∉ g) : (f ++ g).Nodup := List.nodup_append.mpr ⟨h1, h2, fun a ha b hb e => h a ha (e ▸ hb)⟩

/-! ### owned lists -/
theorem Owns.take : ∀ {vs : List V} {ts : List T} {f : List Addr} {j : Nat} {t : T}, Owns K F H vs ts f → ts[j]? = Option.some t →
    ∃ v g h, vs[j]? = Option.some v ∧ Own K F H v t g ∧ f.Perm (g ++ h) ∧
      ∀ {F' H' : Hp} {v' : V} {t' : T} {g' : List Addr}, Keeps F H F' H' h → Own K F' H' v' t' g' → ∃ f', Owns K F' H' (vs.set j v') (ts.set j t') f' ∧ f'.Perm (g' ++ h)
  | _, _, _, j, t, .nil, e => by simp at e
  | _, _, _, 0, t, .cons (t := u) (f := f) (g := g) r q, e => by
    have : u = t := by simpa using e
    subst this
    exact ⟨_, f, g, rfl, r, List.Perm.refl _, fun k o => ⟨_, .cons o (q.keep k), List.Perm.refl _⟩⟩
  | _, _, _, j + 1, t, .cons (f := f1) (g := g1) r q, e => by
    obtain ⟨v, g, h, h1, h2, h3, h4⟩ := Owns.take q (show _ = _ by simpa using e)
    refine ⟨v, g, f1 ++ h, by simpa using h1, h2, ?_, fun k o => ?_⟩
    · refine (List.Perm.append_left f1 h3).trans ?_
      rw [← List.append_assoc, ← List.append_assoc]
      exact List.Perm.append_right h List.perm_append_comm
    · obtain ⟨f', q1, q2⟩ := h4 (k.sub fun a m => List.mem_append_right _ m) o
      refine ⟨f1 ++ f', .cons (r.keep (k.sub fun a m => List.mem_append_left _ m)) q1, (List.Perm.append_left f1 q2).trans ?_⟩
      rw [← List.append_assoc, ← List.append_assoc]
      exact List.Perm.append_right _ List.perm_append_comm
theorem Owns.app : ∀ {vs ws : List V} {ts us : List T} {f g : List Addr}, Owns K F H vs ts f → Owns K F H ws us g → Owns K F H (vs ++ ws) (ts ++ us) (f ++ g)
  | _, _, _, _, _, _, .nil, q => q
  | _, _, _, _, _, _, .cons r t, q => by rw [List.append_assoc]; exact .cons r (Owns.app t q)
theorem Owns.flat : ∀ {vs : List V} {ts : List T} {f : List Addr} {ds : List D}, Owns K F H vs ts f → flatT ts = Option.some ds → f = [] ∧ Rps F vs ds
  | _, _, _, ds, .nil, e => by simp [flatT] at e; subst e; exact ⟨rfl, .nil⟩
  | _, _, _, ds, .cons (t := t) r q, e => by
    cases r with
    | dat r =>
      simp only [flatT] at e
      obtain ⟨es, e1, e2⟩ := Option.map_eq_some_iff.mp e
      subst e2
      obtain ⟨h1, h2⟩ := Owns.flat q e1
      subst h1
      exact ⟨rfl, .cons r h2⟩
    | _ => simp [flatT] at e
theorem Owns.ofRps : ∀ {vs : List V} {ds : List D}, Rps F vs ds → Owns K F H vs (ds.map T.dat) []
  | _, _, .nil => .nil
  | _, _, .cons r t => .cons (.dat r) (Owns.ofRps t)

/-! ### along a path -/
/-- the machine's way along it -/
inductive Chain (K : PySem.W.Frag) (H : Hp) : V → List Int → V → Prop
  | nil {v : V} : Chain K H v [] v
  | lst {a : Addr} {vs : List V} {k : Int} {v w : V} {ks : List Int} : SqL K H a vs → atI vs k = Option.some v → Chain K H v ks w → Chain K H (.ref a) (k :: ks) w
  | tup {a : Addr} {vs : List V} {k : Int} {v w : V} {ks : List Int} : SqT K H a vs → atI vs k = Option.some v → Chain K H v ks w → Chain K H (.ref a) (k :: ks) w
  | dct {a : Addr} {kvs : List (Key × V)} {k : Int} {v w : V} {ks : List Int} : H a = Option.some (.dK kvs) → valV kvs (Sum.inl k) = Option.some v → Chain K H v ks w → Chain K H (.ref a) (k :: ks) w
theorem KVs.val {κ : Type} [DecidableEq κ] {kvs' : List (κ × V)} {kvs : List (κ × D)} (r : KVs F kvs' kvs) (k : κ) : match valD kvs k with
    | Option.some d => ∃ v, valV kvs' k = Option.some v ∧ Rp F v d
    | Option.none => valV kvs' k = Option.none := by
  unfold KVs at r
  induction r with
  | nil => rfl
  | @cons p q ps qs h t ih =>
    obtain ⟨e1, e2⟩ := h
    by_cases hk : p.1 = k
    · have hq : q.1 = k := e1 ▸ hk
      have e3 : valD (q :: qs) k = Option.some q.2 := by simp [valD, List.find?_cons, hq]
      rw [e3]
      exact ⟨p.2, valV_pos hk, e2⟩
    · have hq : ¬ q.1 = k := fun z => hk (e1.trans z)
      have e3 : valD (q :: qs) k = valD qs k := by simp [valD, List.find?_cons, hq]
      rw [e3, valV_neg hk]
      exact ih
theorem KVs.val_some {κ : Type} [DecidableEq κ] {kvs' : List (κ × V)} {kvs : List (κ × D)} {k : κ} {d : D} (r : KVs F kvs' kvs) (e : valD kvs k = Option.some d) : ∃ v, valV kvs' k = Option.some v ∧ Rp F v d := by
  have := r.val k
  rw [e] at this
  exact this
theorem atI_some {α : Type} {xs : List α} {k : Int} {x : α} (h : atI xs k = Option.some x) : ∃ j, ixN xs.length k = Option.some j ∧ xs[j]? = Option.some x := Option.bind_eq_some_iff.mp h
theorem atI_of {α : Type} {xs : List α} {k : Int} {x : α} {j : Nat} (h : ixN xs.length k = Option.some j) (e : xs[j]? = Option.some x) : atI xs k = Option.some x := Option.bind_eq_some_iff.mpr ⟨j, h, e⟩
theorem Rps.atI {vs : List V} {ds : List D} {k : Int} {d : D} (r : Rps F vs ds) (h : L2.atI ds k = Option.some d) : ∃ v, L2.atI vs k = Option.some v ∧ Rp F v d := by
  obtain ⟨j, h1, h2⟩ := atI_some h
  obtain ⟨v, h3, h4⟩ := r.get h2
  exact ⟨v, atI_of (by rw [r.len]; exact h1) h3, h4⟩

theorem set_get {α : Type} {l : List α} {i : Nat} {x : α} (e : l[i]? = Option.some x) : l.set i x = l := by
  apply List.ext_getElem?
  intro j
  by_cases h : i = j
  · subst h
    obtain ⟨h1, h2⟩ := List.getElem?_eq_some_iff.mp e
    rw [List.getElem?_set_self h1, e]
  · rw [List.getElem?_set_ne h]
theorem Own.path : ∀ (ks : List Int) {v : V} {t u : T} {f : List Addr}, Same F H → Own K F H v t f → getP t ks = Option.some u →
    ∃ w g h, Chain K H v ks w ∧ Own K F H w u g ∧ f.Perm (g ++ h) ∧
      ∀ {F' H' : Hp} {u' t' : T} {g' : List Addr}, Keeps F H F' H' h → Own K F' H' w u' g' → setP t ks u' = Option.some t' → ∃ f', Own K F' H' v t' f' ∧ f'.Perm (g' ++ h)
  | [], v, t, u, f, s, o, e => by
    have : t = u := by cases t <;> simpa [getP] using e
    subst this
    refine ⟨v, f, [], .nil, o, by rw [List.append_nil], fun {F' H' u' t' g'} k o' e' => ?_⟩
    have : u' = t' := by cases t <;> simpa [setP] using e'
    subst this
    exact ⟨g', o', by rw [List.append_nil]⟩
  | k :: ks, v, t, u, f, s, o, e => by
    cases o with
    | dat r =>
      cases r with
      | @lst a xs ds ea rs =>
        simp only [getP, ixO] at e
        obtain ⟨j, e1, e2⟩ := Option.bind_eq_some_iff.mp e
        obtain ⟨d, e3, e4⟩ := Option.bind_eq_some_iff.mp e2
        obtain ⟨w, hw1, hw2⟩ := rs.get e3
        obtain ⟨w', g, h, c, o', p, _⟩ := Own.path ks s (Own.dat (K := K) (H := H) hw2) e4
        refine ⟨w', g, h, .lst (SqL.of (s _ _ ea)) (atI_of (by rw [rs.len]; exact e1) hw1) c, o', p, fun _ _ e' => by simp [setP] at e'⟩
      | @tup a xs ds ea rs =>
        simp only [getP, ixO] at e
        obtain ⟨j, e1, e2⟩ := Option.bind_eq_some_iff.mp e
        obtain ⟨d, e3, e4⟩ := Option.bind_eq_some_iff.mp e2
        obtain ⟨w, hw1, hw2⟩ := rs.get e3
        obtain ⟨w', g, h, c, o', p, _⟩ := Own.path ks s (Own.dat (K := K) (H := H) hw2) e4
        refine ⟨w', g, h, .tup (SqT.of (s _ _ ea)) (atI_of (by rw [rs.len]; exact e1) hw1) c, o', p, fun _ _ e' => by simp [setP] at e'⟩
      | _ => simp [getP] at e
    | @lst a vs ts f ea n os =>
      simp only [getP, ixO] at e
      obtain ⟨j, e1, e2⟩ := Option.bind_eq_some_iff.mp e
      obtain ⟨t1, e3, e4⟩ := Option.bind_eq_some_iff.mp e2
      obtain ⟨v1, g1, h1, q1, q2, q3, q4⟩ := os.take e3
      obtain ⟨w, g, h, c, o', p, back⟩ := Own.path ks s q2 e4
      refine ⟨w, g, a :: (h ++ h1), .lst (SqL.of ea) (atI_of (by rw [os.len]; exact e1) q1) c, o', ?_, fun {F' H' u' t' g'} kp o2 e' => ?_⟩
      · have := q3.trans (List.Perm.append_right h1 p)
        rw [List.append_assoc] at this
        refine (List.Perm.cons a this).trans ?_
        exact List.perm_middle.symm
      · simp only [setP, ixO] at e'
        obtain ⟨j', x1, x2⟩ := Option.bind_eq_some_iff.mp e'
        rw [e1] at x1
        cases x1
        obtain ⟨t1', x3, x4⟩ := Option.bind_eq_some_iff.mp x2
        rw [e3] at x3
        cases x3
        obtain ⟨t2, x5, x6⟩ := Option.map_eq_some_iff.mp x4
        subst x6
        obtain ⟨f1, y1, y2⟩ := back (kp.sub fun b m => List.mem_cons_of_mem _ (List.mem_append_left _ m)) o2 x5
        obtain ⟨f2, y3, y4⟩ := q4 (kp.sub fun b m => List.mem_cons_of_mem _ (List.mem_append_right _ m)) y1
        rw [set_get q1] at y3
        have ka := kp.at_ a (by simp)
        refine ⟨a :: f2, .lst (by rw [ka.1]; exact ea) ka.2 y3, ?_⟩
        have := y4.trans (List.Perm.append_right h1 y2)
        rw [List.append_assoc] at this
        exact (List.Perm.cons a this).trans List.perm_middle.symm
    | @dK a kvs' kvs ea n r =>
      simp only [getP] at e
      obtain ⟨d, e1, e2⟩ := Option.bind_eq_some_iff.mp e
      obtain ⟨w, h1, h2⟩ := r.val_some e1
      obtain ⟨w', g, h, c, o', p, _⟩ := Own.path ks s (Own.dat (K := K) (H := H) h2) e2
      have hx : g = [] ∧ h = [] := by
        have := p.length_eq
        rw [List.length_append, List.length_nil] at this
        exact ⟨List.eq_nil_of_length_eq_zero (by omega), List.eq_nil_of_length_eq_zero (by omega)⟩
      obtain ⟨rfl, rfl⟩ := hx
      exact ⟨w', [], [a], .dct ea h1 c, o', by simp, fun _ _ e' => by simp [setP] at e'⟩
    | @dKf a kvs' kvs ea r =>
      simp only [getP] at e
      obtain ⟨d, e1, e2⟩ := Option.bind_eq_some_iff.mp e
      obtain ⟨w, h1, h2⟩ := r.val_some e1
      obtain ⟨w', g, h, c, o', p, _⟩ := Own.path ks s (Own.dat (K := K) (H := H) h2) e2
      exact ⟨w', g, h, .dct (s _ _ ea) h1 c, o', p, fun _ _ e' => by simp [setP] at e'⟩
    | dT ea n r => simp [getP] at e
    | dTf ea r => simp [getP] at e
    | scr q => simp [getP] at e

/-- a thing at a place -/
theorem Rel.at {σ : St} {s : S} {f : List Addr} {i : Nat} {ks : List Int} {t u : T} (r : Rel K F H σ s f) (e : getS s i = Option.some t) (e2 : getP t ks = Option.some u) :
    ∃ v w g h, σ[i]? = Option.some (Option.some v) ∧ Chain K H v ks w ∧ Own K F H w u g ∧ f.Perm (g ++ h) ∧
      ∀ {F' H' : Hp} {u' t' : T} {g' : List Addr}, Keeps F H F' H' h → Own K F' H' w u' g' → setP t ks u' = Option.some t' → Sls K F' H' σ (s.set i (Option.some t')) (g' ++ h) := by
  obtain ⟨v, g, r1, q1, q2, q3, q4⟩ := r.sl.take e
  obtain ⟨w, g1, h1, c, o, p, back⟩ := Own.path ks r.same q2 e2
  refine ⟨v, w, g1, h1 ++ r1, q1, c, o, ?_, fun {F' H' u' t' g'} kp o' e' => ?_⟩
  · have := q4.trans (List.Perm.append_right r1 p)
    rw [List.append_assoc] at this
    exact this
  · obtain ⟨f', y1, y2⟩ := back (kp.sub fun a m => List.mem_append_left _ m) o' e'
    have := (q3.keep (kp.sub fun a m => List.mem_append_right _ m)).back q1 y1
    refine this.perm ?_
    have z := List.Perm.append_right r1 y2
    rw [List.append_assoc] at z
    exact z
end
end Eng

/-! ### Eng3 -/
/-! Eng3: what the machine does, as the weakest wish; expressions that the interpreter tells. -/
namespace Eng
open PySem PySem.Spec PyProof.Rows L2

section
variable {X : Cx}
def tW (X : Cx) (e : Expr) : TE := fun σ H Q => ∀ (pins : List (Addr × Obj)) (s : Shared), Inv X pins σ H s → wpAny (model X.prog X.w) X.A (eval e X.env) (EP X pins σ Q) X.xe s
theorem pe_w {e : Expr} : PE X e (tW X e) := ⟨fun pins s σ H Q I h => h pins s I⟩
theorem tW.of {e : Expr} {t : TE} {σ : L2.St} {H : Hp} {Q : VK} (h : PE X e t) (q : t σ H Q) : tW X e σ H Q := fun pins s I => h.run pins s σ H Q I q
theorem tW.mono {e : Expr} {σ : L2.St} {H : Hp} {Q Q' : VK} (h : tW X e σ H Q) (q : ∀ v H', Q v H' → Q' v H') : tW X e σ H Q' := fun pins s I => thn (h pins s I) fun u s' ⟨v, H', I', r, z⟩ => ⟨v, H', I', r, q v H' z⟩
def ttW (X : Cx) (e : Expr) : TT := fun σ H Q => ∀ (pins : List (Addr × Obj)) (s : Shared), Inv X pins σ H s → wpAny (model X.prog X.w) X.A (isTrue e X.env (eval e X.env)) (TP X pins σ Q) X.xe s
theorem pt_w {e : Expr} : PT X e (ttW X e) := ⟨fun pins s σ H Q I h => h pins s I⟩
theorem ttW.of {e : Expr} {t : TT} {σ : L2.St} {H : Hp} {Q : Bool → Hp → Prop} (h : PT X e t) (q : t σ H Q) : ttW X e σ H Q := fun pins s I => h.run pins s σ H Q I q
def twW (X : Cx) (e : Expr) : TT := fun σ H Q => ∀ (whole : Sem Value) (pins : List (Addr × Obj)) (s : Shared), Inv X pins σ H s → wpAny (model X.prog X.w) X.A (isTrue e X.env whole) (TP X pins σ Q) X.xe s
theorem pw_w {e : Expr} : PW X e (twW X e) := ⟨fun wh pins s σ H Q I h => h wh pins s I⟩
theorem twW.of {e : Expr} {t : TT} {σ : L2.St} {H : Hp} {Q : Bool → Hp → Prop} (h : PW X e t) (q : t σ H Q) : twW X e σ H Q := fun wh pins s I => h.run wh pins s σ H Q I q
def aW (X : Cx) (es : List Expr) : TA := fun σ H Q => ∀ (pos : Pos) (pins : List (Addr × Obj)) (s : Shared), Inv X pins σ H s → wpAny (model X.prog X.w) X.A (spliced (backTo pos (starEach es X.env))) (AP X pins σ Q) X.xe s
theorem pa_w {es : List Expr} : PA X es (aW X es) := ⟨fun pos pins s σ H Q I h => h pos pins s I⟩
theorem aW.of {e : List Expr} {t : TA} {σ : L2.St} {H : Hp} {Q : List V → Hp → Prop} (h : PA X e t) (q : t σ H Q) : aW X e σ H Q := fun pos pins s I => h.run pos pins s σ H Q I q
def sW (X : Cx) (st : PySem.Stmt) : TS := fun D σ H => ∀ (pins : List (Addr × Obj)) (s : Shared), Inv X pins σ H s → wpAny (model X.prog X.w) X.A (exec st X.env) (SP X pins D) X.xe s
theorem ps_w {st : PySem.Stmt} : PS X st (sW X st) := ⟨fun pins s σ H D I h => h pins s I⟩
theorem sW.of {e : PySem.Stmt} {t : TS} {D : Ends} {σ : L2.St} {H : Hp} (h : PS X e t) (q : t D σ H) : sW X e D σ H := fun pins s I => h.run pins s σ H D I q
def ssW (X : Cx) (st : List PySem.Stmt) : TS := fun D σ H => ∀ (pins : List (Addr × Obj)) (s : Shared), Inv X pins σ H s → wpAny (model X.prog X.w) X.A (execs st X.env) (SP X pins D) X.xe s
theorem pss_w {st : List PySem.Stmt} : PSs X st (ssW X st) := ⟨fun pins s σ H D I h => h pins s I⟩
theorem ssW.of {e : List PySem.Stmt} {t : TS} {D : Ends} {σ : L2.St} {H : Hp} (h : PSs X e t) (q : t D σ H) : ssW X e D σ H := fun pins s I => h.run pins s σ H D I q
def gW (X : Cx) (tg : Expr) : TG := fun v σ H Q => ∀ (pins : List (Addr × Obj)) (s : Shared) (u : Value), Inv X pins σ H s → RelV v u → wpAny (model X.prog X.w) X.A (assign tg X.env u) (fun _ s' => ∃ σ' H', Inv X pins σ' H' s' ∧ Q σ' H') X.xe s
theorem pg_w {e : Expr} : PG X e (gW X e) := ⟨fun pins s σ H v u Q I r h => h pins s u I r⟩
theorem gW.of {e : Expr} {t : TG} {v : V} {σ : L2.St} {H : Hp} {Q : L2.St → Hp → Prop} (h : PG X e t) (q : t v σ H Q) : gW X e v σ H Q := fun pins s u I r => h.run pins s σ H v u Q I r q
def gsW (X : Cx) (ts : List Expr) : TGs := fun vs σ H Q => ∀ (pins : List (Addr × Obj)) (s : Shared) (us : List Value), Inv X pins σ H s → Vals vs us → wpAny (model X.prog X.w) X.A (assignInOrder ((assignEach ts X.env).map (·.2)) us) (fun _ s' => ∃ σ' H', Inv X pins σ' H' s' ∧ Q σ' H') X.xe s
theorem pgs_w {e : List Expr} : PGs X e (gsW X e) := ⟨fun pins s σ H v u Q I r h => h pins s u I r⟩
theorem gsW.of {e : List Expr} {t : TGs} {v : List V} {σ : L2.St} {H : Hp} {Q : L2.St → Hp → Prop} (h : PGs X e t) (q : t v σ H Q) : gsW X e v σ H Q := fun pins s u I r => h.run pins s σ H v u Q I r q
def iW (X : Cx) (tg iter : Expr) : TI := fun σ H R => ∀ (pins : List (Addr × Obj)) (s : Shared), Inv X pins σ H s → wpAny (model X.prog X.w) X.A (eval iter X.env) (fun v s1 => wpAny (model X.prog X.w) X.A (pyIter v) (PIE X pins σ tg R) X.xe s1) X.xe s
theorem pi_w {tg e : Expr} : PI X tg e (iW X tg e) := ⟨fun pins s σ H R I h => h pins s I⟩
theorem iW.of {tg e : Expr} {t : TI} {σ : L2.St} {H : Hp} {R : It → Hp → Prop} (h : PI X tg e t) (q : t σ H R) : iW X tg e σ H R := fun pins s I => h.run pins s σ H R I q
/-- by values -/
def opW (X : Cx) (f : Value → Value → Sem Value) : R2 := fun x y H Q => ∀ (pins : List (Addr × Obj)) (s : Shared) (σ : L2.St) (v u : Value), Inv X pins σ H s → RelV x v → RelV y u → wpAny (model X.prog X.w) X.A (f v u) (EP X pins σ Q) X.xe s
theorem op_w {f : Value → Value → Sem Value} : OpR X f (opW X f) := fun pins s σ H x y v u Q I rx ry h => h pins s σ v u I rx ry
theorem opW.of {f : Value → Value → Sem Value} {r : R2} {x y : V} {H : Hp} {Q : VK} (h : OpR X f r) (q : r x y H Q) : opW X f x y H Q := fun pins s σ v u I rx ry => h pins s σ H x y v u Q I rx ry q
def unW (X : Cx) (f : Value → Sem Value) : V → Hp → VK → Prop := fun x H Q => ∀ (pins : List (Addr × Obj)) (s : Shared) (σ : L2.St) (v : Value), Inv X pins σ H s → RelV x v → wpAny (model X.prog X.w) X.A (f v) (EP X pins σ Q) X.xe s
theorem un_w {f : Value → Sem Value} : UnR X f (unW X f) := fun pins s σ H x v Q I rx h => h pins s σ v I rx
theorem unW.of {f : Value → Sem Value} {r : V → Hp → VK → Prop} {x : V} {H : Hp} {Q : VK} (h : UnR X f r) (q : r x H Q) : unW X f x H Q := fun pins s σ v I rx => h pins s σ H x v Q I rx q
def cW (X : Cx) (f : Value) : List V → Hp → VK → Prop := fun xs H Q => ∀ (pins : List (Addr × Obj)) (s : Shared) (σ : L2.St) (us : List Value), Inv X pins σ H s → Vals xs us → wpAny (model X.prog X.w) X.A (call f us) (EP X pins σ Q) X.xe s
theorem cr_w {f : Value} : CallR X f (cW X f) := fun pins s σ H xs us Q I r h => h pins s σ us I r
theorem cW.of {f : Value} {r : List V → Hp → VK → Prop} {xs : List V} {H : Hp} {Q : VK} (h : CallR X f r) (q : r xs H Q) : cW X f xs H Q := fun pins s σ us I rx => h pins s σ H xs us Q I rx q
end

/-! ### what the interpreter's word says of the machine -/
/-- behind an expression -/
structure Post (K : PySem.W.Frag) (F H : Hp) (f : List Addr) (σ : L2.St) (v : V) (t : T) (s' : S) (F' H' : Hp) (g h : List Addr) : Prop where
  step : Step F H f F' H' (g ++ h)
  own : Own K F' H' v t g
  sl : Sls K F' H' σ s' h
  nd : (g ++ h).Nodup
/-- .. whose value is data -/
structure PostD (K : PySem.W.Frag) (F H : Hp) (f : List Addr) (σ : L2.St) (v : V) (d : D) (s' : S) (F' H' : Hp) (h : List Addr) : Prop where
  step : Step F H f F' H' h
  rp : Rp F' v d
  rel : Rel K F' H' σ s' h
def SE (X : Cx) (e : Expr) (m : S → Option (T × S)) : Prop := ∀ (σ : L2.St) (s : S) (F H : Hp) (f : List Addr) (t : T) (s' : S) (Q : VK), Rel X.K F H σ s f → m s = some (t, s') →
  (∀ v F' H' g h, Post X.K F H f σ v t s' F' H' g h → Q v H') → tW X e σ H Q
def SD (X : Cx) (e : Expr) (m : S → Option (D × S)) : Prop := ∀ (σ : L2.St) (s : S) (F H : Hp) (f : List Addr) (d : D) (s' : S) (Q : VK), Rel X.K F H σ s f → m s = some (d, s') →
  (∀ v F' H' h, PostD X.K F H f σ v d s' F' H' h → Q v H') → tW X e σ H Q
/-- a test -/
def ST (X : Cx) (e : Expr) (m : S → Option (Bool × S)) : Prop := ∀ (σ : L2.St) (s : S) (F H : Hp) (f : List Addr) (b : Bool) (s' : S) (Q : Bool → Hp → Prop), Rel X.K F H σ s f → m s = some (b, s') →
  (∀ F' H' h, Step F H f F' H' h → Rel X.K F' H' σ s' h → Q b H') → ttW X e σ H Q
def SW (X : Cx) (e : Expr) (m : S → Option (Bool × S)) : Prop := ∀ (σ : L2.St) (s : S) (F H : Hp) (f : List Addr) (b : Bool) (s' : S) (Q : Bool → Hp → Prop), Rel X.K F H σ s f → m s = some (b, s') →
  (∀ F' H' h, Step F H f F' H' h → Rel X.K F' H' σ s' h → Q b H') → twW X e σ H Q
section
variable {K : PySem.W.Frag} {F F' F2 H H' H2 : Hp} {σ : L2.St} {s s' s2 : S} {f g h g2 h2 : List Addr} {v : V} {t : T} {d : D}
theorem Post.rel (p : Post K F H f σ v t s' F' H' g h) : Rel K F' H' σ s' h := ⟨p.step.fh, p.sl, (List.nodup_append.mp p.nd).2.1⟩
theorem Post.has (p : Post K F H f σ v t s' F' H' g h) : ∀ a ∈ g, F' a = none ∧ ∃ o, H' a = some o ∧ Mut (some o) := fun a m => p.own.has a m
/-- the value at once fixed -/
theorem Post.fix (p : Post K F H f σ v t s' F' H' g h) : Step F H f (addF F' H' g) H' h ∧ Rel K (addF F' H' g) H' σ s' h := by
  have k : Keeps F' H' (addF F' H' g) H' h := ⟨addF_same fun a m => (p.has a m).1, fun a m => ⟨rfl, by
    rw [addF_out (nd_apart p.nd a m)]
    exact (p.rel.has a m).1⟩⟩
  exact ⟨p.step.trans (Step.fix p.step.fh fun a m => (p.has a m).1), addF_heap p.step.fh, p.sl.keep k, (List.nodup_append.mp p.nd).2.1⟩
theorem Post.data (p : Post K F H f σ v t s' F' H' g h) (e : T.data t = some d) : PostD K F H f σ v d s' (addF F' H' g) H' h :=
  ⟨p.fix.1, p.own.data e (addF_same fun a m => (p.has a m).1) fun a m => addF_in m, p.fix.2⟩
theorem Post.frz {u : T} (p : Post K F H f σ v t s' F' H' g h) (e : T.frz t = some u) : Post K F H f σ v u s' (addF F' H' g) H' [] h :=
  ⟨p.fix.1, p.own.frz e (addF_same fun a m => (p.has a m).1) fun a m => addF_in m, p.fix.2.sl, p.fix.2.nd⟩
theorem PostD.post (p : PostD K F H f σ v d s' F' H' h) : Post K F H f σ v (.dat d) s' F' H' [] h := ⟨p.step, .dat p.rp, p.rel.sl, p.rel.nd⟩
theorem Post.dat (p : Post K F H f σ v (.dat d) s' F' H' g h) : PostD K F H f σ v d s' F' H' h := by
  obtain ⟨e, r⟩ := p.own.dat_inv
  subst e
  exact ⟨p.step, r, p.rel⟩
/-- data beside a further step -/
theorem PostD.on {v2 : V} {t2 : T} (p : PostD K F H f σ v d s' F' H' h) (q : Post K F' H' h σ v2 t2 s2 F2 H2 g2 h2) : Post K F H f σ v2 t2 s2 F2 H2 g2 h2 ∧ Rp F2 v d :=
  ⟨⟨p.step.trans q.step, q.own, q.sl, q.nd⟩, p.rp.mono q.step.ff⟩
theorem PostD.onD {v2 : V} {d2 : D} (p : PostD K F H f σ v d s' F' H' h) (q : PostD K F' H' h σ v2 d2 s2 F2 H2 h2) : PostD K F H f σ v2 d2 s2 F2 H2 h2 ∧ Rp F2 v d :=
  ⟨⟨p.step.trans q.step, q.rp, q.rel⟩, p.rp.mono q.step.ff⟩
/-- an owned value beside a further step -/
theorem Post.on {v2 : V} {t2 : T} (p : Post K F H f σ v t s' F' H' g h) (q : Post K F' H' h σ v2 t2 s2 F2 H2 g2 h2) :
    Own K F2 H2 v t g ∧ (g ++ (g2 ++ h2)).Nodup ∧ Step F H f F2 H2 (g ++ (g2 ++ h2)) := by
  have k := q.step.keeps (g := g) (nd_apart' p.nd) p.has
  have ap := q.step.apart (g := g) (nd_apart' p.nd) fun b m => let ⟨_, o, e, _⟩ := p.has b m; ⟨o, e⟩
  exact ⟨p.own.keep k, nd_app (List.nodup_append.mp p.nd).1 q.nd ap, p.step.trans (q.step.frame g)⟩
end
section
variable {X : Cx} {e : Expr} {m : S → Option (T × S)}
theorem dOf_eq {m : Option (T × S)} {d : D} {s : S} (h : dOf m = some (d, s)) : ∃ t, m = some (t, s) ∧ T.data t = some d := by
  unfold dOf at h
  obtain ⟨t, s', h1, h2⟩ := bnd_eq h
  obtain ⟨d', h3, h4⟩ := Option.map_eq_some_iff.mp h2
  cases h4
  exact ⟨t, h1, h3⟩
theorem fOf_eq {m : Option (T × S)} {u : T} {s : S} (h : fOf m = some (u, s)) : ∃ t, m = some (t, s) ∧ T.frz t = some u := by
  unfold fOf at h
  obtain ⟨t, s', h1, h2⟩ := bnd_eq h
  obtain ⟨d', h3, h4⟩ := Option.map_eq_some_iff.mp h2
  cases h4
  exact ⟨t, h1, h3⟩
theorem boolOf_eq {m : Option (T × S)} {b : Bool} {s : S} (h : boolOf m = some (b, s)) : m = some (.dat (.bool b), s) := by
  unfold boolOf at h
  obtain ⟨t, s', h1, h2⟩ := bnd_eq h
  split at h2
  · cases h2; exact h1
  · cases h2
theorem SE.d (h : SE X e m) : SD X e fun s => dOf (m s) := fun σ s F H f d s' Q r em q => by
  obtain ⟨t, h1, h2⟩ := dOf_eq em
  exact h σ s F H f t s' Q r h1 fun v F' H' g k p => q v _ H' k (p.data h2)
theorem SE.f (h : SE X e m) : SE X e fun s => fOf (m s) := fun σ s F H f u s' Q r em q => by
  obtain ⟨t, h1, h2⟩ := fOf_eq em
  exact h σ s F H f t s' Q r h1 fun v F' H' g k p => q v _ H' [] k (p.frz h2)
theorem SE.b (h : SE X e m) : SD X e fun s => (boolOf (m s)).map fun p => (.bool p.1, p.2) := fun σ s F H f d s' Q r em q => by
  obtain ⟨⟨b, s1⟩, h1, h2⟩ := Option.map_eq_some_iff.mp em
  cases h2
  exact h σ s F H f _ s1 Q r (boolOf_eq h1) fun v F' H' g k p => q v _ H' k p.dat
end
end Eng

/-! ### Eng4 -/
/-! Eng4: operators and built-ins by values. -/
namespace Eng
open PySem PySem.Spec PyProof.Rows L2

theorem line_ok {n : Nat} (h : n ≤ lineN) : n ≤ sizeLine := Nat.le_trans h (by decide)
theorem line_lt {n : Nat} (h : n < lineN) : n < sizeLine := Nat.lt_of_lt_of_le h (by decide)

/-- what a value-level operation hands back: nothing that stood is changed -/
structure Res (K : PySem.W.Frag) (F H : Hp) (z : V) (u : T) (F' H' : Hp) (g : List Addr) : Prop where
  step : Step F H [] F' H' g
  own : Own K F' H' z u g
  nd : g.Nodup
section
variable {K : PySem.W.Frag} {F F' F0 H H' H0 : Hp} {σ : L2.St} {s : S} {f g h : List Addr} {z : V} {u : T} {d : D}
theorem Res.old (s : Same F H) (r : Rp F z d) : Res K F H z (.dat d) F H [] := ⟨Step.refl s, .dat r, List.nodup_nil⟩
theorem Res.int (s : Same F H) (i : Int) : Res K F H (.int i) (.dat (.int i)) F H [] := Res.old s (.int i)
theorem Res.bl (s : Same F H) (i : Bool) : Res K F H (.bl i) (.dat (.bool i)) F H [] := Res.old s (.bl i)
theorem Res.non (s : Same F H) : Res K F H .non (.dat .none) F H [] := Res.old s .non
theorem Res.tup (s : Same F H) {p : Addr} (n : H p = none) {vs : List V} {ds : List D} (r : Rps F vs ds) : Res K F H (.ref p) (.dat (.tuple ds)) (upd F p (.tup vs)) (upd H p (.tup vs)) [] := by
  have st := Step.newF (o := .tup vs) s n (f := []) (by simp)
  exact ⟨st, .dat (.tup upd_same (r.mono st.ff)), List.nodup_nil⟩
theorem Res.lstO (s : Same F H) {p : Addr} (n : H p = none) {vs : List V} {ts : List T} (r : Owns K F H vs ts []) : Res K F H (.ref p) (.lst ts) F (upd H p (.lst vs)) [p] := by
  refine ⟨Step.newO s n, .lst upd_same (s.free n) (r.keep ⟨Same.refl _, by simp⟩), by simp⟩
theorem Res.lst (s : Same F H) {p : Addr} (n : H p = none) {vs : List V} {ds : List D} (r : Rps F vs ds) : Res K F H (.ref p) (freshL ds) F (upd H p (.lst vs)) [p] :=
  Res.lstO s n (Owns.ofRps r)
/-- behind the parts' evaluation -/
theorem Res.post (p : Step F0 H0 f F H h) (r : Rel K F H σ s h) (q : Res K F H z u F' H' g) : Post K F0 H0 f σ z u s F' H' g h := by
  have k : Keeps F H F' H' h := q.step.keeps (by simp) r.has
  have ap := q.step.apart (g := h) (by simp) fun b m => let ⟨_, o, e, _⟩ := r.has b m; ⟨o, e⟩
  refine ⟨p.trans (((q.step.frame h).mono (g := h) (g' := g ++ h) ?_ ?_)), q.own, r.sl.keep k, nd_app q.nd r.nd fun b m m' => ap b m' m⟩
  · intro b m; simpa using m
  · intro b m
    rcases List.mem_append.mp m with m | m
    · exact List.mem_append_right _ m
    · exact List.mem_append_left _ m
end

def opOf : BOp → Operator
  | .add => .Add | .sub => .Sub | .mul => .Mult | .fdiv => .FloorDiv | .mod => .Mod | .pow => .Pow | .shl => .LShift | .shr => .RShift | .band => .BitAnd | .bor => .BitOr | .bxor => .BitXor
section
variable {X : Cx}
theorem mulOk_ok {i j : Int} (h : mulOk i j = true) : CMul i j ∨ CMulW i j := by
  unfold mulOk at h
  simp only [Bool.or_eq_true, Bool.and_eq_true, decide_eq_true_eq] at h
  rcases h with (h | h) | ⟨h1, h2⟩
  · exact .inl (.inl (by omega))
  · exact .inl (.inr (by omega))
  · exact .inr (wide_mul h1 h2 (by decide) (by decide) (by decide))
theorem binI_ok {o : BOp} {i j k : Int} (h : binI o i j = some k) {H : Hp} {Q : VK} (q : Q (.int k) H) : opW X (binaryOp (opOf o)) (.int i) (.int j) H Q := by
  cases o with
  | add => cases h; exact opW.of op_add ⟨i, j, rfl, rfl, q⟩
  | sub => cases h; exact opW.of op_sub ⟨i, j, rfl, rfl, q⟩
  | mul =>
    simp only [binI] at h
    split at h
    · rename_i c
      cases h
      rcases mulOk_ok c with c | c
      · exact opW.of op_mul ⟨i, j, rfl, rfl, c, q⟩
      · exact opW.of op_mulW ⟨i, j, rfl, rfl, c, q⟩
    · cases h
  | fdiv =>
    simp only [binI] at h
    split at h
    · rename_i c
      simp only [Bool.and_eq_true, decide_eq_true_eq] at c
      cases h
      exact opW.of op_fdivN ⟨i, j, rfl, rfl, c, q⟩
    · cases h
  | mod =>
    simp only [binI] at h
    split at h
    · rename_i c
      simp only [decide_eq_true_eq] at c
      cases h
      exact opW.of op_modN ⟨i, j, rfl, rfl, c, q⟩
    · cases h
  | pow =>
    simp only [binI] at h
    split at h
    · rename_i c
      simp only [Bool.and_eq_true, decide_eq_true_eq] at c
      cases h
      exact opW.of op_pow ⟨i, j, rfl, rfl, ⟨c.1.1, by omega, c.2⟩, q⟩
    · cases h
  | shl =>
    simp only [binI] at h
    split at h
    · rename_i c
      simp only [Bool.and_eq_true, decide_eq_true_eq] at c
      cases h
      exact opW.of op_shl ⟨i, j, rfl, rfl, ⟨c.1.1, by omega, c.2⟩, q⟩
    · cases h
  | shr =>
    simp only [binI] at h
    split at h
    · rename_i c
      simp only [decide_eq_true_eq] at c
      cases h
      exact opW.of op_shr ⟨i, j, rfl, rfl, c, q⟩
    · cases h
  | band => cases h; exact opW.of op_and ⟨i, j, rfl, rfl, q⟩
  | bor => cases h; exact opW.of op_or ⟨i, j, rfl, rfl, q⟩
  | bxor => cases h; exact opW.of op_xor ⟨i, j, rfl, rfl, q⟩
theorem rep_rps {F : Hp} {vs : List V} {ds : List D} (r : Rps F vs ds) : ∀ n : Nat, Rps F (List.replicate n vs).flatten (List.replicate n ds).flatten
  | 0 => .nil
  | n + 1 => by rw [List.replicate_succ, List.replicate_succ, List.flatten_cons, List.flatten_cons]; exact Rps.app r (rep_rps r n)
theorem binD_ok {o : BOp} {F H : Hp} {v w : V} {x y : D} {u : T} {Q : VK} (h : binD o x y = some u) (s : Same F H) (rv : Rp F v x) (rw' : Rp F w y)
    (q : ∀ z F' H' g, Res X.K F H z u F' H' g → Q z H') : opW X (binaryOp (opOf o)) v w H Q := by
  unfold binD at h
  split at h
  · -- ints
    cases rv; cases rw'
    obtain ⟨k, h1, h2⟩ := Option.map_eq_some_iff.mp h
    subst h2
    exact binI_ok h1 (q _ F H [] (Res.int s k))
  · -- tuple + tuple
    split at h
    · rename_i hl
      cases h
      cases rv with
      | @tup a xs ds ea ra =>
        cases rw' with
        | @tup b ys es eb rb =>
          refine opW.of op_catA ⟨a, b, xs, ys, rfl, rfl, SqT.of (s _ _ ea), SqT.of (s _ _ eb), by rw [ra.len, rb.len]; exact line_ok hl, ?_, ?_, ?_⟩
          · intro e
            subst e
            cases ra
            exact q _ F H [] (Res.old s (.tup eb rb))
          · intro _ e
            subst e
            cases rb
            rw [List.append_nil] at q
            exact q _ F H [] (Res.old s (.tup ea ra))
          · intro _ _ p n
            exact q _ _ _ _ (Res.tup s n (ra.app rb))
    · cases h
  · -- list + list
    split at h
    · rename_i hl
      cases h
      cases rv with
      | @lst a xs ds ea ra =>
        cases rw' with
        | @lst b ys es eb rb =>
          refine opW.of op_cat ⟨a, b, xs, ys, rfl, rfl, s _ _ ea, s _ _ eb, by rw [ra.len, rb.len]; exact line_ok hl, fun p n => ?_⟩
          exact q _ _ _ _ (Res.lst s n (ra.app rb))
    · cases h
  · -- list * int
    split at h
    · rename_i c
      simp only [Bool.and_eq_true, decide_eq_true_eq] at c
      cases h
      cases rv with
      | @lst a xs ds ea ra =>
        cases rw' with
        | int =>
          refine opW.of op_rep ⟨a, _, xs, rfl, rfl, s _ _ ea, by omega, by omega, by rw [ra.len]; exact line_ok c.2, fun p n => ?_⟩
          exact q _ _ _ _ (Res.lst s n (rep_rps ra _))
    · cases h
  · -- tuple * int
    split at h
    · rename_i c
      simp only [Bool.and_eq_true, decide_eq_true_eq] at c
      cases h
      cases rv with
      | @tup a xs ds ea ra =>
        cases rw' with
        | int =>
          refine opW.of op_repT ⟨a, _, xs, rfl, rfl, SqT.of (s _ _ ea), ?_, c.1.1.2, c.1.2, by rw [ra.len]; exact c.2, fun p n => ?_⟩
          · intro e
            subst e
            cases ra
            have z := c.1.1.1
            simp at z
          · exact q _ _ _ _ (Res.tup s n (rep_rps ra _))
    · cases h
  · cases h
def uopOf : UOp → UnaryOp
  | .neg => .USub | .inv => .Invert | .nt => .Not
theorem unD_ok {o : UOp} (ho : o ≠ .nt) {F H : Hp} {v : V} {x d : D} {Q : VK} (h : unD o x = some d) (s : Same F H) (rv : Rp F v x) (q : ∀ z, Rp F z d → Q z H) : unW X (unaryOp (uopOf o)) v H Q := by
  unfold unD at h
  split at h
  · cases rv
    cases h
    exact unW.of un_neg ⟨_, rfl, q _ (.int _)⟩
  · cases rv
    cases h
    exact unW.of un_inv ⟨_, rfl, q _ (.int _)⟩
  · exact absurd rfl ho
  · cases h
end
end Eng

/-! ### Eng5 -/
/-! Eng5: comparisons and built-ins by values. -/
namespace Eng
open PySem PySem.Spec PyProof.Rows L2

/-- a thing looked at -/
inductive Vw (K : PySem.W.Frag) (F H : Hp) : V → T → Prop
  | dat {v : V} {d : D} : Rp F v d → Vw K F H v (.dat d)
  | lst {a : Addr} {vs : List V} {ds : List D} : H a = some (.lst vs) → Rps F vs ds → Vw K F H (.ref a) (.dat (.list ds))
  | dK {a : Addr} {b : Bool} {kvs' : List (Key × V)} {kvs : List (Key × D)} : H a = some (.dK kvs') → KVs F kvs' kvs → Vw K F H (.ref a) (.dK b kvs)
  | dT {a : Addr} {b : Bool} {kvs' : List (List Key × V)} {kvs : List (List Key × D)} : H a = some (.dT kvs') → KVs F kvs' kvs → Vw K F H (.ref a) (.dT b kvs)
  | scr {a : Addr} {ns : List Int} : SqL K H a (ns.map V.int) → Vw K F H (.ref a) (.scr ns)
section
variable {K : PySem.W.Frag} {F F' H H' : Hp} {v w : V} {t u : T} {f : List Addr}
theorem Own.vw (s : Same F H) (o : Own K F H v t f) (e : T.look t = some u) : Vw K F H v u := by
  cases o with
  | dat r => cases e; exact .dat r
  | lst ea n os =>
    simp only [T.look] at e
    obtain ⟨ds, h1, h2⟩ := Option.map_eq_some_iff.mp e
    subst h2
    exact .lst ea (os.flat h1).2
  | dK ea n r => cases e; exact .dK ea r
  | dKf ea r => cases e; exact .dK (s _ _ ea) r
  | dT ea n r => cases e; exact .dT ea r
  | dTf ea r => cases e; exact .dT (s _ _ ea) r
  | scr q => cases e; exact .scr (s.seq q)
/-- what is fixed, looked at -/
theorem Own.vw0 (s : Same F H) (o : Own K F H v t []) : Vw K F H v t := by
  cases o with
  | dat r => exact .dat r
  | dKf ea r => exact .dK (s _ _ ea) r
  | dTf ea r => exact .dT (s _ _ ea) r
  | scr q => exact .scr (s.seq q)
theorem Vw.data (s : Same F H) {d : D} (o : Vw K F H v (.dat d)) : Dp K H v d := by
  cases o with
  | dat r => exact r.dp s
  | lst ea r => exact .lst (SqL.of ea) (r.dp s)
theorem Vw.seqL (s : Same F H) {ds : List D} (o : Vw K F H v (.dat (.list ds))) : ∃ a vs, v = .ref a ∧ H a = some (.lst vs) ∧ Rps F vs ds := by
  cases o with
  | dat r =>
    cases r with
    | lst ea rs => exact ⟨_, _, rfl, s _ _ ea, rs⟩
  | lst ea r => exact ⟨_, _, rfl, ea, r⟩
theorem Vw.seqT (s : Same F H) {ds : List D} (o : Vw K F H v (.dat (.tuple ds))) : ∃ a vs, v = .ref a ∧ F a = some (.tup vs) ∧ H a = some (.tup vs) ∧ Rps F vs ds := by
  cases o with
  | dat r =>
    cases r with
    | tup ea rs => exact ⟨_, _, rfl, ea, s _ _ ea, rs⟩
theorem Vw.int {i : Int} (o : Vw K F H v (.dat (.int i))) : v = .int i := by
  cases o with
  | dat r => cases r; rfl
end

def copOf : COp → CmpOp
  | .eq => .Eq | .ne => .NotEq | .lt => .Lt | .le => .LtE | .gt => .Gt | .ge => .GtE | .isin => .In | .notin => .NotIn
section
variable {X : Cx}
theorem cmpI_ok {o : COp} {i j : Int} {c : Bool} (h : cmpI o i j = some c) {H : Hp} {Q : VK} (q : Q (.bl c) H) : opW X (compareOp (copOf o)) (.int i) (.int j) H Q := by
  cases o with
  | eq => cases h; exact opW.of op_eq ⟨rfl, by rw [dec_int, Bool.beq_eq_decide_eq]; exact q⟩
  | ne => cases h; exact opW.of op_ne ⟨rfl, by rw [dec_int, Bool.beq_eq_decide_eq]; exact q⟩
  | lt => cases h; exact opW.of op_lt ⟨i, j, rfl, rfl, q⟩
  | le => cases h; exact opW.of op_le ⟨i, j, rfl, rfl, q⟩
  | gt => cases h; exact opW.of op_gt ⟨i, j, rfl, rfl, q⟩
  | ge => cases h; exact opW.of op_ge ⟨i, j, rfl, rfl, q⟩
  | isin => cases h
  | notin => cases h
/-- keys -/
theorem key_of' {F : Hp} {v : V} {d : D} {k : Key} (r : Rp F v d) (e : toKey d = some k) : v = kV k := by
  cases r with
  | int i => cases e; rfl
  | str x => cases e; rfl
  | _ => cases e
theorem keys_of' {F : Hp} : ∀ {vs : List V} {ds : List D} {ks : List Key}, Rps F vs ds → toKeys ds = some ks → vs = ks.map kV
  | _, _, _, .nil, e => by cases e; rfl
  | _, _, _, .cons r t, e => by
    unfold toKeys at e
    obtain ⟨k, h1, h2⟩ := Option.bind_eq_some_iff.mp e
    obtain ⟨ks, h3, h4⟩ := Option.map_eq_some_iff.mp h2
    subst h4
    rw [key_of' r h1, keys_of' t h3]
    rfl
theorem KVs.get {κ : Type} [DecidableEq κ] {F : Hp} {kvs' : List (κ × V)} {kvs : List (κ × D)} (r : KVs F kvs' kvs) (k : κ) : (valV kvs' k).isSome = (valD kvs k).isSome := by
  have h := r.val k
  cases e : valD kvs k with
  | none => rw [e] at h; simp only at h; rw [h]; rfl
  | some d =>
    rw [e] at h
    simp only at h
    obtain ⟨v, h1, _⟩ := h
    rw [h1]
    rfl
/-- flat things -/
theorem flat_rp {F : Hp} {v : V} {d : D} (r : Rp F v d) (e : flatD d = true) : flatV v = true := by
  cases r <;> first | rfl | cases e
theorem flat_eq {F : Hp} {v w : V} {d e : D} (r : Rp F v d) (q : Rp F w e) (h1 : flatD d = true) (h2 : flatD e = true) : eqV v w = PyData.eqv d e := by
  cases r <;> cases q <;> first | rfl | (cases h1; done) | (cases h2; done) | (simp [eqV, PyData.eqv]; done) | skip
  all_goals first | (unfold PyData.eqv; rfl) | skip

theorem flat_all {F : Hp} : ∀ {vs : List V} {ds : List D}, Rps F vs ds → ds.all flatD = true → vs.all flatV = true
  | _, _, .nil, _ => rfl
  | _, _, .cons r t, e => by
    rw [List.all_cons, Bool.and_eq_true] at e
    rw [List.all_cons, Bool.and_eq_true]
    exact ⟨flat_rp r e.1, flat_all t e.2⟩
theorem flat_any {F : Hp} {w : V} {e : D} (q : Rp F w e) (h2 : flatD e = true) : ∀ {vs : List V} {ds : List D}, Rps F vs ds → ds.all flatD = true → (vs.any fun y => eqV y w) = ds.any fun x => PyData.eqv x e
  | _, _, .nil, _ => rfl
  | _, _, .cons r t, h => by
    rw [List.all_cons, Bool.and_eq_true] at h
    rw [List.any_cons, List.any_cons, flat_eq r q h.1 h2, flat_any q h2 t h.2]
theorem in_ok {F H : Hp} {v w : V} {d : D} {xs : List D} {vs : List V} {p : Addr} {Q : VK} (rv : Rp F v d) (hw : w = .ref p) (hs : SqL X.K H p vs ∨ SqT X.K H p vs) (rs : Rps F vs xs) (c : (flatD d && xs.all flatD) = true) :
    (Q (.bl (xs.any fun x => PyData.eqv x d)) H → opW X (compareOp .In) v w H Q) ∧ (Q (.bl (!xs.any fun x => PyData.eqv x d)) H → opW X (compareOp .NotIn) v w H Q) := by
  rw [Bool.and_eq_true] at c
  refine ⟨fun q => opW.of op_in_seq ⟨p, vs, hw, hs, flat_rp rv c.1, flat_all rs c.2, ?_⟩, fun q => opW.of op_notIn_seq ⟨p, vs, hw, hs, flat_rp rv c.1, flat_all rs c.2, ?_⟩⟩
  · rw [if_neg Bool.false_ne_true]
    show Q (.bl (vs.any fun y => eqV y v)) H
    rw [flat_any rv c.1 rs c.2]
    exact q
  · rw [if_pos rfl]
    show Q (.bl (!vs.any fun y => eqV y v)) H
    rw [flat_any rv c.1 rs c.2]
    exact q
theorem opIn_d (hu : X.A.units + 1 < cLine) {v w : V} {H : Hp} {a : Addr} {o : Option V} {Q : VK} (hw : w = .ref a) (g : DGet H a v o) (q : Q (.bl o.isSome) H) : opW X (compareOp .In) v w H Q := by
  intro pins s σ u u2 I rx ry
  subst hw
  cases ry
  exact d_in hu I g rx fun s3 I3 => ⟨.bl o.isSome, H, I3, rfl, q⟩
theorem opNotIn_d (hu : X.A.units + 1 < cLine) {v w : V} {H : Hp} {a : Addr} {o : Option V} {Q : VK} (hw : w = .ref a) (g : DGet H a v o) (q : Q (.bl (!o.isSome)) H) : opW X (compareOp .NotIn) v w H Q := by
  intro pins s σ u u2 I rx ry
  subst hw
  cases ry
  exact d_notIn hu I g rx fun s3 I3 => ⟨.bl (!o.isSome), H, I3, rfl, q⟩
theorem Vw.dK_inv {K : PySem.W.Frag} {F H : Hp} {v : V} {b : Bool} {kvs : List (Key × D)} (o : Vw K F H v (.dK b kvs)) : ∃ a kvs', v = .ref a ∧ H a = some (.dK kvs') ∧ KVs F kvs' kvs := by
  cases o with
  | dK ea r => exact ⟨_, _, rfl, ea, r⟩
theorem Vw.dT_inv {K : PySem.W.Frag} {F H : Hp} {v : V} {b : Bool} {kvs : List (List Key × D)} (o : Vw K F H v (.dT b kvs)) : ∃ a kvs', v = .ref a ∧ H a = some (.dT kvs') ∧ KVs F kvs' kvs := by
  cases o with
  | dT ea r => exact ⟨_, _, rfl, ea, r⟩
/-- a dict asked by a key -/
theorem dget_k {F H : Hp} {v : V} {d : D} {k : Key} {a : Addr} {kvs' : List (Key × V)} (r : Rp F v d) (e : toKey d = some k) (ea : H a = some (.dK kvs')) : DGet H a v (valV kvs' k) := by
  rw [key_of' r e]
  exact DGet.k ea
theorem dget_t {F H : Hp} {v : V} {ds : List D} {ks : List Key} {a : Addr} {kvs' : List (List Key × V)} (s : Same F H) (r : Rp F v (.tuple ds)) (e : toKeys ds = some ks) (ea : H a = some (.dT kvs')) : DGet H a v (valV kvs' ks) := by
  cases r with
  | tup eb rs =>
    rw [keys_of' rs e] at eb
    exact DGet.t ea (s _ _ eb)
theorem Vw.rp {K : PySem.W.Frag} {F H : Hp} {v : V} {d : D} (o : Vw K F H v (.dat d)) (h : ∀ ds, d ≠ .list ds) : Rp F v d := by
  cases o with
  | dat r => exact r
  | lst _ _ => exact absurd rfl (h _)
theorem cmpT_ok (hu : X.A.units + 64 < cLine) {o : COp} {F H : Hp} {v w : V} {x y : T} {c : Bool} {Q : VK} (h : cmpT o x y = some c) (s : Same F H) (rv : Vw X.K F H v x) (rw' : Vw X.K F H w y) (q : Q (.bl c) H) :
    opW X (compareOp (copOf o)) v w H Q := by
  have hu1 : X.A.units + 1 < cLine := by omega
  have hu0 : X.A.units < cLine := by omega
  unfold cmpT at h
  split at h
  · -- in dict
    obtain ⟨k, h1, h2⟩ := Option.map_eq_some_iff.mp h
    obtain ⟨a, kvs', rfl, ea, r⟩ := rw'.dK_inv
    have rd : Rp F v _ := rv.rp fun ds e => by subst e; cases h1
    refine opIn_d hu1 rfl (dget_k rd h1 ea) ?_
    rw [r.get, h2]; exact q
  · obtain ⟨k, h1, h2⟩ := Option.map_eq_some_iff.mp h
    obtain ⟨a, kvs', rfl, ea, r⟩ := rw'.dK_inv
    have rd : Rp F v _ := rv.rp fun ds e => by subst e; cases h1
    refine opNotIn_d hu1 rfl (dget_k rd h1 ea) ?_
    rw [r.get, h2]; exact q
  · obtain ⟨k, h1, h2⟩ := Option.map_eq_some_iff.mp h
    obtain ⟨a, kvs', rfl, ea, r⟩ := rw'.dT_inv
    have rd : Rp F v _ := rv.rp fun ds e => by cases e
    refine opIn_d hu1 rfl (dget_t s rd h1 ea) ?_
    rw [r.get, h2]; exact q
  · obtain ⟨k, h1, h2⟩ := Option.map_eq_some_iff.mp h
    obtain ⟨a, kvs', rfl, ea, r⟩ := rw'.dT_inv
    have rd : Rp F v _ := rv.rp fun ds e => by cases e
    refine opNotIn_d hu1 rfl (dget_t s rd h1 ea) ?_
    rw [r.get, h2]; exact q
  · split at h
    · rename_i cc
      cases h
      obtain ⟨a, vs, rfl, ea, rs⟩ := rw'.seqL s
      have fd : flatD _ = true := (Bool.and_eq_true_iff.mp cc).1
      exact (in_ok (rv.rp fun ds e => by subst e; cases fd) rfl (.inl (SqL.of ea)) rs cc).1 q
    · cases h
  · split at h
    · rename_i cc
      cases h
      obtain ⟨a, vs, rfl, _, ea, rs⟩ := rw'.seqT s
      have fd : flatD _ = true := (Bool.and_eq_true_iff.mp cc).1
      exact (in_ok (rv.rp fun ds e => by subst e; cases fd) rfl (.inr (SqT.of ea)) rs cc).1 q
    · cases h
  · split at h
    · rename_i cc
      cases h
      obtain ⟨a, vs, rfl, ea, rs⟩ := rw'.seqL s
      have fd : flatD _ = true := (Bool.and_eq_true_iff.mp cc).1
      exact (in_ok (rv.rp fun ds e => by subst e; cases fd) rfl (.inl (SqL.of ea)) rs cc).2 q
    · cases h
  · split at h
    · rename_i cc
      cases h
      obtain ⟨a, vs, rfl, _, ea, rs⟩ := rw'.seqT s
      have fd : flatD _ = true := (Bool.and_eq_true_iff.mp cc).1
      exact (in_ok (rv.rp fun ds e => by subst e; cases fd) rfl (.inr (SqT.of ea)) rs cc).2 q
    · cases h
  · rw [rv.int, rw'.int]
    exact cmpI_ok h q
  · split at h
    · rename_i cc
      cases h
      have cc := Bool.and_eq_true_iff.mp cc
      exact opW.of (op_eqD hu) ⟨_, _, rv.data s, rw'.data s, cc.1, cc.2, q⟩
    · cases h
  · split at h
    · rename_i cc
      cases h
      have cc := Bool.and_eq_true_iff.mp cc
      exact opW.of (op_neD hu) ⟨_, _, rv.data s, rw'.data s, cc.1, cc.2, q⟩
    · cases h
  · obtain ⟨is, h1, h2⟩ := Option.bind_eq_some_iff.mp h
    obtain ⟨js, h3, h4⟩ := Option.map_eq_some_iff.mp h2
    subst h4
    obtain ⟨a, vs, rfl, _, ea, rs⟩ := rv.seqT s
    obtain ⟨b, ws, rfl, _, eb, rt⟩ := rw'.seqT s
    rw [(rs.ints h1).1] at ea
    rw [(rt.ints h3).1] at eb
    exact opW.of (op_ltT hu0) ⟨a, b, is, js, rfl, rfl, SqT.of ea, SqT.of eb, q⟩
  · cases h
end
end Eng

/-! ### Eng6 -/
/-! Eng6: built-ins by values. -/
namespace Eng
open PySem PySem.Spec PyProof.Rows L2

/-! ### sorting -/
theorem insI_perm (x : Int) : ∀ l : List Int, (insI x l).Perm (x :: l)
  | [] => List.Perm.refl _
  | y :: ys => by
    unfold insI
    split
    · exact List.Perm.refl _
    · exact (List.Perm.cons y (insI_perm x ys)).trans (List.Perm.swap x y ys)
theorem sortI_perm : ∀ l : List Int, (sortI l).Perm l
  | [] => List.Perm.refl _
  | x :: xs => (insI_perm x (sortI xs)).trans (List.Perm.cons x (sortI_perm xs))
theorem insI_sorted (x : Int) : ∀ l : List Int, l.Pairwise (· ≤ ·) → (insI x l).Pairwise (· ≤ ·)
  | [], _ => by simp [insI]
  | y :: ys, h => by
    unfold insI
    have hy := List.pairwise_cons.mp h
    split
    · rename_i hx
      refine List.pairwise_cons.mpr ⟨fun z hz => ?_, h⟩
      rcases List.mem_cons.mp hz with rfl | hz
      · exact hx
      · exact Int.le_trans hx (hy.1 z hz)
    · rename_i hx
      refine List.pairwise_cons.mpr ⟨fun z hz => ?_, insI_sorted x ys hy.2⟩
      have := (insI_perm x ys).mem_iff.mp hz
      rcases List.mem_cons.mp this with rfl | hz
      · omega
      · exact hy.1 z hz
theorem sortI_sorted : ∀ l : List Int, (sortI l).Pairwise (· ≤ ·)
  | [] => List.Pairwise.nil
  | x :: xs => insI_sorted x _ (sortI_sorted xs)
/-- two lists in order with the same items are one -/
theorem sorted_unique {α : Type} {le : α → α → Prop} (anti : ∀ a b, le a b → le b a → a = b) : ∀ {l m : List α}, l.Pairwise le → m.Pairwise le → l.Perm m → l = m
  | [], m, _, _, p => by
    have := p.length_eq
    exact (List.eq_nil_of_length_eq_zero (by simpa using this.symm)).symm
  | x :: xs, [], _, _, p => by
    have := p.length_eq
    simp at this
  | x :: xs, y :: ys, h1, h2, p => by
    have a := List.pairwise_cons.mp h1
    have b := List.pairwise_cons.mp h2
    have e : x = y := by
      have m1 : x ∈ y :: ys := p.mem_iff.mp (by simp)
      have m2 : y ∈ x :: xs := p.mem_iff.mpr (by simp)
      rcases List.mem_cons.mp m1 with e | m1
      · exact e
      · rcases List.mem_cons.mp m2 with e | m2
        · exact e.symm
        · exact anti _ _ (a.1 y m2) (b.1 x m1)
    subst e
    rw [sorted_unique anti a.2 b.2 p.cons_inv]
theorem sortI_unique {l m : List Int} (p : m.Perm l) (s : m.Pairwise (· ≤ ·)) : m = sortI l :=
  sorted_unique (fun _ _ h1 h2 => Int.le_antisymm h1 h2) s (sortI_sorted l) (p.trans (sortI_perm l).symm)
theorem leP_iff {p q : Int × Int} : leP p q = true ↔ p.1 < q.1 ∨ (p.1 = q.1 ∧ p.2 ≤ q.2) := by
  unfold leP
  simp
theorem insP_perm (x : Int × Int) : ∀ l : List (Int × Int), (insP x l).Perm (x :: l)
  | [] => List.Perm.refl _
  | y :: ys => by
    unfold insP
    split
    · exact List.Perm.refl _
    · exact (List.Perm.cons y (insP_perm x ys)).trans (List.Perm.swap x y ys)
theorem sortP_perm : ∀ l : List (Int × Int), (sortP l).Perm l
  | [] => List.Perm.refl _
  | x :: xs => (insP_perm x (sortP xs)).trans (List.Perm.cons x (sortP_perm xs))
theorem insP_sorted (x : Int × Int) : ∀ l : List (Int × Int), l.Pairwise (fun p q => leP p q = true) → (insP x l).Pairwise (fun p q => leP p q = true)
  | [], _ => by simp [insP]
  | y :: ys, h => by
    unfold insP
    have hy := List.pairwise_cons.mp h
    split
    · rename_i hx
      refine List.pairwise_cons.mpr ⟨fun z hz => ?_, h⟩
      rcases List.mem_cons.mp hz with rfl | hz
      · exact hx
      · have a := leP_iff.mp hx
        have b := leP_iff.mp (hy.1 z hz)
        exact leP_iff.mpr (by omega)
    · rename_i hx
      refine List.pairwise_cons.mpr ⟨fun z hz => ?_, insP_sorted x ys hy.2⟩
      have := (insP_perm x ys).mem_iff.mp hz
      rcases List.mem_cons.mp this with rfl | hz
      · have a : ¬ (z.1 < y.1 ∨ (z.1 = y.1 ∧ z.2 ≤ y.2)) := fun w => hx (leP_iff.mpr w)
        exact leP_iff.mpr (by omega)
      · exact hy.1 z hz
theorem sortP_sorted : ∀ l : List (Int × Int), (sortP l).Pairwise (fun p q => leP p q = true)
  | [] => List.Pairwise.nil
  | x :: xs => insP_sorted x _ (sortP_sorted xs)
theorem sortP_unique {l m : List (Int × Int)} (p : m.Perm l) (s : m.Pairwise (fun p q => leP p q = true)) : m = sortP l :=
  sorted_unique (fun a b h1 h2 => by
    have a' := leP_iff.mp h1
    have b' := leP_iff.mp h2
    exact Prod.ext (by omega) (by omega)) s (sortP_sorted l) (p.trans (sortP_perm l).symm)

theorem minI_ok : ∀ {l : List Int} {m : Int}, minI l = some m → m ∈ l ∧ ∀ y ∈ l, m ≤ y
  | [], _, h => by cases h
  | [x], m, h => by
    simp only [minI, Option.some.injEq] at h
    subst h
    simp
  | x :: y :: r, m, h => by
    simp only [minI] at h
    obtain ⟨k, h1, h2⟩ := Option.map_eq_some_iff.mp h
    obtain ⟨h3, h4⟩ := minI_ok (l := y :: r) h1
    subst h2
    by_cases c : k < x
    · rw [if_pos c]
      exact ⟨List.mem_cons_of_mem _ h3, fun z hz => by
        rcases List.mem_cons.mp hz with rfl | hz
        · omega
        · exact h4 z hz⟩
    · rw [if_neg c]
      exact ⟨by simp, fun z hz => by
        rcases List.mem_cons.mp hz with rfl | hz
        · omega
        · have := h4 z hz; omega⟩
theorem maxI_ok : ∀ {l : List Int} {m : Int}, maxI l = some m → m ∈ l ∧ ∀ y ∈ l, y ≤ m
  | [], _, h => by cases h
  | [x], m, h => by
    simp only [maxI, Option.some.injEq] at h
    subst h
    simp
  | x :: y :: r, m, h => by
    simp only [maxI] at h
    obtain ⟨k, h1, h2⟩ := Option.map_eq_some_iff.mp h
    obtain ⟨h3, h4⟩ := maxI_ok (l := y :: r) h1
    subst h2
    by_cases c : x < k
    · rw [if_pos c]
      exact ⟨List.mem_cons_of_mem _ h3, fun z hz => by
        rcases List.mem_cons.mp hz with rfl | hz
        · omega
        · exact h4 z hz⟩
    · rw [if_neg c]
      exact ⟨by simp, fun z hz => by
        rcases List.mem_cons.mp hz with rfl | hz
        · omega
        · have := h4 z hz; omega⟩

/-! ### views of several -/
inductive Vws (K : PySem.W.Frag) (F H : Hp) : List V → List T → Prop
  | nil : Vws K F H [] []
  | cons {v : V} {vs : List V} {t : T} {ts : List T} : Vw K F H v t → Vws K F H vs ts → Vws K F H (v :: vs) (t :: ts)
theorem Vws.one {K : PySem.W.Frag} {F H : Hp} {vs : List V} {t : T} (h : Vws K F H vs [t]) : ∃ v, vs = [v] ∧ Vw K F H v t := by
  cases h with
  | cons a b => cases b; exact ⟨_, rfl, a⟩
theorem Vws.two {K : PySem.W.Frag} {F H : Hp} {vs : List V} {t u : T} (h : Vws K F H vs [t, u]) : ∃ v w, vs = [v, w] ∧ Vw K F H v t ∧ Vw K F H w u := by
  cases h with
  | cons a b =>
    cases b with
    | cons c d => cases d; exact ⟨_, _, rfl, a, c⟩

/-- the built-in that stands behind it -/
def biCallee : Bi → Value
  | .len => .builtin "len" | .abs => .builtin "abs" | .min => .builtin "min" | .max => .builtin "max" | .sum => .builtin "sum" | .all => .builtin "all" | .any => .builtin "any"
  | .sorted => .builtin "sorted" | .tuple => .type "tuple" | .list => .type "list" | .int => .type "int" | .gcd => .builtin "math.gcd" | .comb => .builtin "math.comb"
  | .isint => .builtin "isinstance" | .isbool => .builtin "isinstance" | .istup => .builtin "isinstance" | .isstr => .builtin "isinstance" | .islist => .builtin "isinstance" | .isdict => .builtin "isinstance"
  | _ => .none
def biType : Bi → Option String
  | .isint => some "int" | .isbool => some "bool" | .istup => some "tuple" | .isstr => some "str" | .islist => some "list"
  | _ => none
def extra (f : Bi) : List V := match biType f with
  | some n => [.ty n]
  | none => []
section
variable {X : Cx}
theorem pairs_rp {F : Hp} : ∀ {vs : List V} {ds : List D} {ps : List (Int × Int)}, Rps F vs ds → pairsOf ds = some ps → ds = ps.map dP ∧ ∀ v ∈ vs, ∃ a i j, v = .ref a ∧ F a = some (.tup [.int i, .int j])
  | _, _, _, .nil, e => by cases e; exact ⟨rfl, by simp⟩
  | _, _, _, .cons r t, e => by
    unfold pairsOf at e
    obtain ⟨p, h1, h2⟩ := Option.bind_eq_some_iff.mp e
    obtain ⟨ps, h3, h4⟩ := Option.map_eq_some_iff.mp h2
    subst h4
    obtain ⟨q1, q2⟩ := pairs_rp t h3
    unfold pairOf at h1
    split at h1
    · cases h1
      cases r with
      | tup ea rs =>
        cases rs with
        | cons r1 rs =>
          cases rs with
          | cons r2 rs =>
            cases rs
            cases r1
            cases r2
            refine ⟨by rw [q1]; rfl, fun v hv => ?_⟩
            rcases List.mem_cons.mp hv with rfl | hv
            · exact ⟨_, _, _, rfl, ea⟩
            · exact q2 v hv
    · cases h1
/-- the two ints of a pair that is laid -/
noncomputable def pk (F : Hp) (v : V) : Int × Int := match v with
  | .ref a => match F a with
    | some (.tup [.int i, .int j]) => (i, j)
    | _ => (0, 0)
  | _ => (0, 0)
theorem pk_at {F : Hp} {a : Addr} {i j : Int} (e : F a = some (.tup [.int i, .int j])) : pk F (.ref a) = (i, j) := by
  unfold pk
  simp only [e]
theorem rps_pk {F : Hp} : ∀ {vs : List V}, (∀ v ∈ vs, ∃ a i j, v = .ref a ∧ F a = some (.tup [.int i, .int j])) → Rps F vs ((vs.map (pk F)).map dP)
  | [], _ => .nil
  | v :: vs, h => by
    obtain ⟨a, i, j, rfl, e⟩ := h v (by simp)
    refine .cons ?_ (rps_pk fun w hw => h w (List.mem_cons_of_mem _ hw))
    show Rp F (.ref a) (dP (pk F (.ref a)))
    rw [pk_at e]
    exact .tup e (.cons (.int i) (.cons (.int j) .nil))
theorem dP_inj : ∀ {l m : List (Int × Int)}, l.map dP = m.map dP → l = m
  | [], [], _ => rfl
  | [], _ :: _, h => by simp at h
  | _ :: _, [], h => by simp at h
  | p :: ps, q :: qs, h => by
    simp only [List.map_cons, List.cons.injEq, dP] at h
    obtain ⟨h1, h2⟩ := h
    have : p = q := by
      injection h1 with h1
      injection h1 with a b
      injection b with b c
      injection a with a
      injection b with b
      exact Prod.ext a b
    rw [this, dP_inj h2]
theorem Rps.inj {F : Hp} : ∀ {vs : List V} {ds es : List D}, (∀ v ∈ vs, ∃ a i j, v = .ref a ∧ F a = some (.tup [.int i, .int j])) → Rps F vs ds → Rps F vs es → ds = es
  | _, _, _, _, .nil, .nil => rfl
  | _, _, _, h, .cons r t, .cons r' t' => by
    rw [Rps.inj (fun w hw => h w (List.mem_cons_of_mem _ hw)) t t']
    obtain ⟨a, i, j, e1, e⟩ := h _ (List.mem_cons_self)
    subst e1
    cases r with
    | tup ea rs =>
      rw [e] at ea
      cases ea
      cases r' with
      | tup eb rs' =>
        rw [e] at eb
        cases eb
        cases rs with
        | cons x1 rs =>
          cases rs with
          | cons x2 rs =>
            cases rs
            cases rs' with
            | cons y1 rs' =>
              cases rs' with
              | cons y2 rs' =>
                cases rs'
                cases x1; cases x2; cases y1; cases y2
                rfl
      | lst eb _ => rw [e] at eb; cases eb
    | lst eb _ => rw [e] at eb; cases eb
/-- sorted of a list -/
theorem sorted_ok {F H : Hp} {a : Addr} {vs : List V} {ds es : List D} {Q : VK} (s : Same F H) (ha : H a = some (.lst vs)) (r : Rps F vs ds) (e : sortD ds = some es)
    (q : ∀ z F' H' g, Res X.K F H z (freshL es) F' H' g → Q z H') : cW X (.builtin "sorted") [.ref a] H Q := by
  unfold sortD at e
  split at e
  · rename_i is h1
    cases e
    obtain ⟨e1, e2⟩ := r.ints h1
    refine cW.of cr_sortedI ⟨a, is, rfl, by rw [← e1]; exact SqL.of ha, fun ns' p hp hs n => ?_⟩
    rw [sortI_unique hp hs]
    exact q _ _ _ _ (Res.lst s n (Rps.ofInts _))
  · split at e
    · rename_i ps h1
      cases e
      obtain ⟨e1, e2⟩ := pairs_rp r h1
      refine cW.of cr_sortedPO ⟨a, vs, pk F, rfl, SqL.of ha, fun x hx => ?_, fun ys p h2 h3 n => ?_⟩
      · obtain ⟨b, i, j, rfl, eb⟩ := e2 x hx
        exact ⟨b, rfl, by rw [pk_at eb]; exact s _ _ eb⟩
      · have hy : ∀ v ∈ ys, ∃ a i j, v = V.ref a ∧ F a = some (.tup [.int i, .int j]) := fun v hv => e2 v (h3.perm.mem_iff.mp hv)
        have ep : vs.map (pk F) = ps := dP_inj ((Rps.inj e2 (rps_pk e2) (e1 ▸ r)))
        have hs : (ys.map (pk F)).Pairwise (fun p q => leP p q = true) := by
          refine List.pairwise_map.mpr (List.Pairwise.imp ?_ h2)
          intro x y hxy
          have := SrtO.lexB_no.mp hxy
          exact leP_iff.mpr (by omega)
        have hp : (ys.map (pk F)).Perm ps := by rw [← ep]; exact h3.perm.map _
        have := sortP_unique hp hs
        refine q _ _ _ _ (Res.lst s n ?_)
        rw [← this]
        exact rps_pk hy
    · cases e
end
end Eng

/-! ### Eng7 -/
/-! Eng7: built-ins by values, all together. -/
namespace Eng
open PySem PySem.Spec PyProof.Rows L2
def tyN : D → String
  | .none => "NoneType" | .bool _ => "bool" | .int _ => "int" | .str _ => "str" | .list _ => "list" | .tuple _ => "tuple" | .dict _ => "dict"
section
variable {X : Cx}
theorem ty_data {K : PySem.W.Frag} {F H : Hp} {v : V} {d : D} (s : Same F H) (o : Vw K F H v (.dat d)) : TyX K H v (.type (tyN d)) := by
  cases o with
  | dat r =>
    cases r with
    | non => exact .base .non
    | bl b => exact .base (.bl b)
    | int b => exact .base (.int b)
    | str b => exact .base (.str b)
    | lst ea _ => exact .base (.lst (s _ _ ea))
    | tup ea _ => exact .base (.tup (s _ _ ea))
  | lst ea _ => exact .base (.lst ea)
theorem isi_ok {F H : Hp} {v : V} {d : D} {n : String} {b : Bool} {Q : VK} (s : Same F H) (o : Vw X.K F H v (.dat d)) (hb : kitB (tyN d) n = some b) (q : Q (.bl b) H) : cW X (.builtin "isinstance") [v, .ty n] H Q :=
  cW.of call_isi ⟨v, .ty n, _, .type n, b, rfl, .ty n, ty_data s o, kit_ty hb, q⟩
def isD (f : Bi) (d : D) : Bool := match f with
  | .isint => (match d with | .int _ => true | .bool _ => true | _ => false)
  | .isbool => (match d with | .bool _ => true | _ => false)
  | .istup => (match d with | .tuple _ => true | _ => false)
  | .isstr => (match d with | .str _ => true | _ => false)
  | .islist => (match d with | .list _ => true | _ => false)
  | _ => false
theorem kit_all : ∀ f n, biType f = some n → ∀ d : D, (∀ kvs, d ≠ .dict kvs) → kitB (tyN d) n = some (isD f d) := by
  intro f n h d hd
  have k1 : kitB "NoneType" "int" = some false := by decide +kernel
  have k2 : kitB "bool" "int" = some true := by decide +kernel
  have k3 : kitB "int" "int" = some true := by decide +kernel
  have k4 : kitB "str" "int" = some false := by decide +kernel
  have k5 : kitB "list" "int" = some false := by decide +kernel
  have k6 : kitB "tuple" "int" = some false := by decide +kernel
  have a1 : kitB "NoneType" "bool" = some false := by decide +kernel
  have a2 : kitB "bool" "bool" = some true := by decide +kernel
  have a3 : kitB "int" "bool" = some false := by decide +kernel
  have a4 : kitB "str" "bool" = some false := by decide +kernel
  have a5 : kitB "list" "bool" = some false := by decide +kernel
  have a6 : kitB "tuple" "bool" = some false := by decide +kernel
  have b1 : kitB "NoneType" "tuple" = some false := by decide +kernel
  have b2 : kitB "bool" "tuple" = some false := by decide +kernel
  have b3 : kitB "int" "tuple" = some false := by decide +kernel
  have b4 : kitB "str" "tuple" = some false := by decide +kernel
  have b5 : kitB "list" "tuple" = some false := by decide +kernel
  have b6 : kitB "tuple" "tuple" = some true := by decide +kernel
  have c1 : kitB "NoneType" "str" = some false := by decide +kernel
  have c2 : kitB "bool" "str" = some false := by decide +kernel
  have c3 : kitB "int" "str" = some false := by decide +kernel
  have c4 : kitB "str" "str" = some true := by decide +kernel
  have c5 : kitB "list" "str" = some false := by decide +kernel
  have c6 : kitB "tuple" "str" = some false := by decide +kernel
  have d1 : kitB "NoneType" "list" = some false := by decide +kernel
  have d2 : kitB "bool" "list" = some false := by decide +kernel
  have d3 : kitB "int" "list" = some false := by decide +kernel
  have d4 : kitB "str" "list" = some false := by decide +kernel
  have d5 : kitB "list" "list" = some true := by decide +kernel
  have d6 : kitB "tuple" "list" = some false := by decide +kernel
  cases f <;> (try (cases h; done)) <;> cases h <;> cases d <;> (first | assumption | exact absurd rfl (hd _))
theorem not_dict {K : PySem.W.Frag} {F H : Hp} {v : V} {d : D} (o : Vw K F H v (.dat d)) : ∀ kvs, d ≠ .dict kvs := by
  rintro kvs rfl
  cases o with
  | dat r => cases r
theorem isT_ok {f : Bi} {n : String} (hf : biType f = some n) {g : D → Bool} (hg : g = isD f) {F H : Hp} {vs : List V} {ts : List T} {u : T} {Q : VK} (s : Same F H) (rv : Vws X.K F H vs ts) (h : isT g ts = some u)
    (q : ∀ z F' H' g, Res X.K F H z u F' H' g → Q z H') : cW X (.builtin "isinstance") (vs ++ extra f) H Q := by
  unfold isT at h
  split at h
  · cases h
    obtain ⟨v, rfl, o⟩ := rv.one
    have e : extra f = [.ty n] := by unfold extra; rw [hf]
    rw [e, hg] at *
    exact isi_ok s o (kit_all f n hf _ (not_dict o)) (q _ _ _ _ (Res.bl s _))
  · cases h
/-- those that are not told by themselves -/
def biHard : Bi → List T → Bool
  | .sorted, [.dT _ _] => true
  | .sorted, [.dK _ _] => true
  | .revl, _ => true | .zipl, _ => true | .enuml, _ => true | .set, _ => true
  | _, _ => false
theorem keys_list {F : Hp} {kvs' : List (Key × V)} {kvs : List (Key × D)} (r : KVs F kvs' kvs) : Rps F (kvs'.map fun kv => kV kv.1) (kvs.map fun kv => ofKey kv.1) := by
  unfold KVs at r
  induction r with
  | nil => exact .nil
  | @cons p q ps qs h t ih =>
    refine .cons ?_ ih
    show Rp F (kV p.1) (ofKey q.1)
    rw [h.1]
    cases q.1 with
    | inl i => exact .int i
    | inr x => exact .str x
theorem keysOf_rps {F : Hp} : ∀ ks : List Key, Rps F (ks.map kV) (ks.map ofKey)
  | [] => .nil
  | .inl i :: ks => .cons (.int i) (keysOf_rps ks)
  | .inr x :: ks => .cons (.str x) (keysOf_rps ks)
theorem biF_ok (hc : X.calm = true) {f : Bi} {F H : Hp} {vs : List V} {ts : List T} {u : T} {Q : VK} (h : biF f ts = some u) (hh : biHard f ts = false) (s : Same F H) (rv : Vws X.K F H vs ts)
    (q : ∀ z F' H' g, Res X.K F H z u F' H' g → Q z H') : cW X (biCallee f) (vs ++ extra f) H Q := by
  unfold biF at h
  split at h
  · obtain ⟨v, rfl, o⟩ := rv.one
    obtain ⟨a, vs, rfl, ea, r⟩ := o.seqL s
    cases h
    exact cW.of call_len_seq ⟨a, vs, rfl, .inl (SqL.of ea), by rw [r.len]; exact q _ _ _ _ (Res.int s _)⟩
  · obtain ⟨v, rfl, o⟩ := rv.one
    obtain ⟨a, vs, rfl, _, ea, r⟩ := o.seqT s
    cases h
    exact cW.of call_len_seq ⟨a, vs, rfl, .inr (SqT.of ea), by rw [r.len]; exact q _ _ _ _ (Res.int s _)⟩
  · obtain ⟨v, rfl, o⟩ := rv.one
    obtain ⟨a, kvs', rfl, ea, r⟩ := o.dK_inv
    cases h
    exact cW.of call_lenD ⟨a, kvs', rfl, ea, by rw [Paired.length r]; exact q _ _ _ _ (Res.int s _)⟩
  · obtain ⟨v, rfl, o⟩ := rv.one
    obtain ⟨a, kvs', rfl, ea, r⟩ := o.dT_inv
    cases h
    exact cW.of call_len_dT ⟨a, kvs', rfl, ea, by rw [Paired.length r]; exact q _ _ _ _ (Res.int s _)⟩
  · obtain ⟨v, rfl, o⟩ := rv.one
    cases h
    cases o with
    | scr ea => exact cW.of call_len_seq ⟨_, _, rfl, .inl ea, by rw [List.length_map]; exact q _ _ _ _ (Res.int s _)⟩
  · obtain ⟨v, rfl, o⟩ := rv.one
    cases h
    rw [o.int]
    exact cW.of call_abs ⟨_, rfl, q _ _ _ _ (Res.int s _)⟩
  · obtain ⟨v, w, rfl, o, o2⟩ := rv.two
    cases h
    rw [o.int, o2.int]
    exact cW.of (call_min2 hc) ⟨_, _, rfl, q _ _ _ _ (Res.int s _)⟩
  · obtain ⟨v, w, rfl, o, o2⟩ := rv.two
    cases h
    rw [o.int, o2.int]
    exact cW.of (call_max2 hc) ⟨_, _, rfl, q _ _ _ _ (Res.int s _)⟩
  · obtain ⟨v, rfl, o⟩ := rv.one
    obtain ⟨a, vs, rfl, ea, r⟩ := o.seqL s
    obtain ⟨is, h1, h2⟩ := Option.bind_eq_some_iff.mp h
    obtain ⟨m, h3, h4⟩ := Option.map_eq_some_iff.mp h2
    subst h4
    rw [(r.ints h1).1] at ea
    obtain ⟨k1, k2⟩ := minI_ok h3
    refine cW.of (cr_min hc) ⟨a, is, rfl, SqL.of ea, List.length_pos_of_mem k1, fun m' h5 h6 => ?_⟩
    have : m' = m := Int.le_antisymm (h6 _ k1) (k2 _ h5)
    rw [this]
    exact q _ _ _ _ (Res.int s _)
  · obtain ⟨v, rfl, o⟩ := rv.one
    obtain ⟨a, vs, rfl, ea, r⟩ := o.seqL s
    obtain ⟨is, h1, h2⟩ := Option.bind_eq_some_iff.mp h
    obtain ⟨m, h3, h4⟩ := Option.map_eq_some_iff.mp h2
    subst h4
    rw [(r.ints h1).1] at ea
    obtain ⟨k1, k2⟩ := maxI_ok h3
    refine cW.of (cr_max hc) ⟨a, is, rfl, SqL.of ea, List.length_pos_of_mem k1, fun m' h5 h6 => ?_⟩
    have : m' = m := Int.le_antisymm (k2 _ h5) (h6 _ k1)
    rw [this]
    exact q _ _ _ _ (Res.int s _)
  · obtain ⟨v, rfl, o⟩ := rv.one
    obtain ⟨a, vs, rfl, ea, r⟩ := o.seqL s
    obtain ⟨is, h1, h2⟩ := Option.map_eq_some_iff.mp h
    subst h2
    rw [(r.ints h1).1] at ea
    exact cW.of (cr_sum hc) ⟨a, is, rfl, SqL.of ea, q _ _ _ _ (Res.int s _)⟩
  · obtain ⟨v, rfl, o⟩ := rv.one
    obtain ⟨a, vs, rfl, ea, r⟩ := o.seqL s
    obtain ⟨is, h1, h2⟩ := Option.map_eq_some_iff.mp h
    subst h2
    rw [(r.bools h1).1] at ea
    exact cW.of (cr_all hc) ⟨a, is, rfl, SqL.of ea, q _ _ _ _ (Res.bl s _)⟩
  · obtain ⟨v, rfl, o⟩ := rv.one
    obtain ⟨a, vs, rfl, ea, r⟩ := o.seqL s
    obtain ⟨is, h1, h2⟩ := Option.map_eq_some_iff.mp h
    subst h2
    rw [(r.bools h1).1] at ea
    exact cW.of (cr_any hc) ⟨a, is, rfl, SqL.of ea, q _ _ _ _ (Res.bl s _)⟩
  · obtain ⟨v, rfl, o⟩ := rv.one
    obtain ⟨a, vs, rfl, ea, r⟩ := o.seqL s
    obtain ⟨es, h1, h2⟩ := Option.map_eq_some_iff.mp h
    subst h2
    exact sorted_ok s ea r h1 q
  · cases hh
  · cases hh
  · obtain ⟨v, rfl, o⟩ := rv.one
    obtain ⟨a, vs, rfl, ea, r⟩ := o.seqL s
    cases h
    exact cW.of call_tuple_of ⟨a, vs, rfl, .inl ⟨SqL.of ea, fun l n => q _ _ _ _ (Res.tup s n r)⟩⟩
  · obtain ⟨v, rfl, o⟩ := rv.one
    obtain ⟨a, vs, rfl, eF, ea, r⟩ := o.seqT s
    cases h
    exact cW.of call_tuple_of ⟨a, vs, rfl, .inr ⟨SqT.of ea, q _ _ _ _ (Res.old s (.tup eF r))⟩⟩
  · obtain ⟨v, rfl, o⟩ := rv.one
    obtain ⟨a, vs, rfl, ea, r⟩ := o.seqL s
    cases h
    exact cW.of call_list_of ⟨a, vs, rfl, .inl (SqL.of ea), fun l n => q _ _ _ _ (Res.lst s n r)⟩
  · obtain ⟨v, rfl, o⟩ := rv.one
    obtain ⟨a, vs, rfl, eF, ea, r⟩ := o.seqT s
    cases h
    exact cW.of call_list_of ⟨a, vs, rfl, .inr (SqT.of ea), fun l n => q _ _ _ _ (Res.lst s n r)⟩
  · obtain ⟨v, rfl, o⟩ := rv.one
    obtain ⟨a, kvs', rfl, ea, r⟩ := o.dK_inv
    cases h
    exact cW.of (call_list_dK hc) ⟨a, kvs', rfl, ea, fun l n => q _ _ _ _ (Res.lst s n (keys_list r))⟩
  · cases h
  · obtain ⟨v, rfl, o⟩ := rv.one
    cases h
    rw [o.int]
    exact cW.of call_int1 (.inl ⟨_, rfl, q _ _ _ _ (Res.int s _)⟩)
  · obtain ⟨v, rfl, o⟩ := rv.one
    cases h
    cases o with
    | dat r =>
      cases r
      exact cW.of call_int1 (.inr ⟨_, rfl, q _ _ _ _ (Res.int s _)⟩)
  · obtain ⟨v, w, rfl, o, o2⟩ := rv.two
    cases h
    rw [o.int, o2.int]
    exact cW.of cr_gcd ⟨_, _, rfl, q _ _ _ _ (Res.int s _)⟩
  · obtain ⟨v, w, rfl, o, o2⟩ := rv.two
    split at h
    · rename_i c
      simp only [Bool.and_eq_true, decide_eq_true_eq] at c
      cases h
      rw [o.int, o2.int]
      intro pins s1 σ us I r
      obtain ⟨t, w, rfl⟩ := Vals.int2 r
      exact PySem.W.mc_comb c.1.1.1 c.1.1.2 c.1.2 (.inl c.2) fun _ => ⟨.int _, H, I.tok _, ⟨_, rfl⟩, q _ _ _ _ (Res.int s _)⟩
    · cases h
  · exact isT_ok rfl (by funext d; cases d <;> rfl) s rv h q
  · exact isT_ok rfl (by funext d; cases d <;> rfl) s rv h q
  · exact isT_ok rfl (by funext d; cases d <;> rfl) s rv h q
  · exact isT_ok rfl (by funext d; cases d <;> rfl) s rv h q
  · exact isT_ok rfl (by funext d; cases d <;> rfl) s rv h q
  · cases hh
  · cases hh
  · cases hh
  · cases h
end
end Eng

/-! ### Eng8 -/
set_option maxHeartbeats 1000000
/-! Eng8: list(reversed(a list)); sorted of a dict of any size. -/
namespace RT
open PySem PySem.Spec PyProof.Rows L2
section
variable {prog : Program} {w : World} {A : Around} {E : Value → Shared → Prop} {s : Shared}
/-- an iterator from behind fills a new list -/
theorem fill_rev {R : Result → Shared → Prop} {it l T : Addr} {items : Array Value} (hh : A.handled = none) (hit : s.heap.IsRevIter it l ((items.size : Int) - 1)) (hl : s.heap.IsList l items) (hne : l ≠ it) (hn : items.size ≤ sizeLine) (res : Value) (c₀ : Nat)
    (hTi : T ≠ it) (hTl : T ≠ l) (hT : s.heap.get? T = some { cls := .type "list", data := .seq #[] c₀ })
    (hR : ∀ (h' : Heap) (tk : Nat) (acc : Array Value) (c : Nat), (∀ b o, b ≠ it → b ≠ T → s.heap.get? b = some o → h'.get? b = some o) → h'.get? T = some { cls := .type "list", dict := none, data := .seq acc c, slots := #[] } →
      ItemsOf (fun i v => items[items.size - 1 - i]? = some v) acc items.size → R (.ok (.ret res)) { s with heap := h', toks := tk }) :
    wpAny (model prog w) A.in1 (Builtin.List.listExtendWith (.ref T) (.ref it) res)
      (fun fin s' => match fin with | .done f => R (.ok f) s' | .again c' => c'.quiet = true ∧ codeAny (model prog w) A c' R s') (fun e s' => R (.error e) s') s := by
  have W := (Walks.listRev (prog := prog) (w := w) (A := A.in1) hh it l hne items).toS
  have hTf : T ∉ [it, l] := by simp only [List.mem_cons, List.not_mem_nil, or_false, not_or]; exact ⟨hTi, hTl⟩
  have ty : s.TypeIs (.ref it) "list_reverseiterator" := hit.typeIs
  unfold Builtin.List.listExtendWith
  refine wpAny_bind (wpAny_typeOf ty ?_)
  have h1 : Builtin.List.listSameRef (.ref T) (.ref it) = false := by simp [Builtin.List.listSameRef, hTi]
  rw [if_neg (by rw [h1]; decide)]
  refine wpAny_bind (wpAny_pyIter_revIter hit ?_)
  refine wpAny_bind (wpAny_holding ?_)
  unfold Builtin.List.listLengthHint
  refine wpAny_bind (wpAny_specialOf ty nolen_lri ?_)
  show wpAny _ _ (specialOf (Value.ref it) (Str.ofString "__length_hint__") >>= _) _ _ s
  refine wpAny_bind (wpAny_specialOf ty hint_lri ?_)
  generalize hid : ("list_reverseiterator.__length_hint__" : String) = id0
  wp_delta
  rw [show splitId id0 = some ("list_reverseiterator", "__length_hint__") from by rw [← hid]; decide +kernel]
  subst hid
  refine wpAny_bind (wpAny_isInstance (b := true) ty (by rw [isSubtype_type]; kernel_rfl) (wpAny_pure ?_))
  rw [if_neg (by decide)]
  have e0 : ((items.size : Nat) : Int) - 1 - ((0 : Nat) : Int) = (items.size : Int) - 1 := by omega
  refine wpAny_pure ⟨plainId_quiet PySem.F.plain_extend_loop _, codeAny_extend_loopS W hn T hTf res items.size 0 s #[] c₀ rfl (Nat.zero_le _) ⟨Nat.zero_le _, by rw [e0]; exact hit, hl⟩ hT (ItemsOf.nil _) fun s1 acc1 c1 hm h2 hacc => ?_⟩
  rw [Moved.eq_with hm]
  refine hR s1.heap s1.toks acc1 c1 (fun b o hb hb2 e => hm.heap b o (fun hmem => ?_) e) h2 hacc
  rcases List.mem_cons.mp hmem with e' | hmem
  · exact hb2 e'
  · exact hb (List.mem_singleton.mp hmem)
theorem call_list_rev {it l : Addr} {items : Array Value} {Q : Value → Shared → Prop} (hh : A.handled = none) (hit : s.heap.IsRevIter it l ((items.size : Int) - 1)) (hl : s.heap.IsList l items) (hne : l ≠ it) (hn : items.size ≤ sizeLine)
    (hQ : ∀ (h' : Heap) (tk : Nat) (acc : Array Value) (c : Nat), (∀ b o, b ≠ it → s.heap.get? b = some o → h'.get? b = some o) → h'.get? s.heap.objs.size = some { cls := .type "list", dict := none, data := .seq acc c, slots := #[] } →
      ItemsOf (fun i v => items[items.size - 1 - i]? = some v) acc items.size → Q (.ref s.heap.objs.size) { s with heap := h', toks := tk }) :
    wpAny (model prog w) A (call (.type "list") [.ref it]) Q E s := by
  obtain ⟨oi, hoi, _⟩ := id hit
  obtain ⟨ol, hol, _⟩ := id hl
  refine callType_codes (Q₁ := fun obj s₁ => obj = .ref s.heap.objs.size ∧ s₁ = { s with heap := s.heap.push { cls := .type "list", data := .seq #[] } }) PySem.F.called_list (PySem.F.typeCall_list_1 _) PySem.F.entry_list_init (code_list_new _ ⟨rfl, rfl⟩) ?_
  rintro obj s₁ ⟨rfl, rfl⟩
  have hS : (s.heap.push { cls := .type "list", data := .seq #[] }).get? s.heap.objs.size = some { cls := .type "list", data := .seq #[] } := Heap.get?_push_size _ rfl
  refine ⟨⟨_, hS, rfl⟩, PySem.F.args_list_init_2 _ _, ?_⟩
  show wpAny _ _ (do let old ← Builtin.List.listItems (.ref s.heap.objs.size); Builtin.List.listUpdate (.ref s.heap.objs.size) (fun _ => #[]); letGo old.toList.reverse; Builtin.List.listExtendWith (.ref s.heap.objs.size) (.ref it) .none) _ _ _
  refine wpAny_bind ?_
  unfold Builtin.List.listItems
  refine wpAny_bind (wpAny_seqItems hS rfl (wpAny_pure ?_))
  show wpAny _ _ (updateSeq s.heap.objs.size (fun _ => #[]) >>= fun _ => letGo (#[] : Array Value).toList.reverse >>= fun _ => Builtin.List.listExtendWith (.ref s.heap.objs.size) (.ref it) .none) _ _ _
  refine wpAny_bind (wpAny_updateSeq hS rfl ?_)
  have hS₂ := Heap.get?_update_self (Obj.mapSeq (fun _ => (#[] : Array Value))) hS rfl
  have oth : ∀ b o, b ≠ s.heap.objs.size → s.heap.get? b = some o → ((s.heap.push { cls := .type "list", data := .seq #[] }).update s.heap.objs.size (Obj.mapSeq (fun _ => (#[] : Array Value)))).get? b = some o :=
    fun b o hb e => (Heap.get?_update_other _ _ (Ne.symm hb)).trans (Heap.get?_push_of_some _ e)
  have ni : it ≠ s.heap.objs.size := Nat.ne_of_lt (Heap.lt_size hoi)
  have nl : l ≠ s.heap.objs.size := Nat.ne_of_lt (Heap.lt_size hol)
  refine wpAny_bind (wpAny_letGo ?_)
  refine fill_rev (A := A.in1) hh (hit.at fun o e => oth _ o ni e) ?_ hne hn .none _ (Ne.symm ni) (Ne.symm nl) hS₂ fun h' tk acc c hk hD hacc => ?_
  · obtain ⟨o, h1, h2, n, h3⟩ := id hl
    exact ⟨o, oth _ o nl h1, h2, n, h3⟩
  · exact ⟨rfl, hQ h' tk acc c (fun b o hb e => hk b o hb (Nat.ne_of_lt (Heap.lt_size e)) (oth b o (Nat.ne_of_lt (Heap.lt_size e)) e)) hD hacc⟩
end
section
variable {X : Cx}
/-- list(reversed(x)), x a list: a new list -/
def tListRev (K : PySem.W.Frag) (te : TE) : TE := fun σ H Q => te σ H fun v H1 => ∃ (a : Addr) (xs : List V), v = .ref a ∧ SqL K H1 a xs ∧ ∀ q, H1 q = none → Q (.ref q) (upd H1 q (.lst xs.reverse))
theorem pe_listRev {e : Expr} {te : TE} {p p2 pos pos2 : Pos} (hc : X.calm = true) (hg : Gl X "list") (hm : X.mg "list" = none) (hg2 : Gl X "reversed") (hm2 : X.mg "reversed" = none) (he : PE X e te)
    (hs : starEach [e] X.env = (false, eval e X.env) :: starEach [] X.env)
    (hs2 : starEach [.Call (.Name "reversed" p2) [e] [] pos2] X.env = (false, eval (.Call (.Name "reversed" p2) [e] [] pos2) X.env) :: starEach [] X.env := by rfl) :
    PE X (.Call (.Name "list" p) [.Call (.Name "reversed" p2) [e] [] pos2] [] pos) (tListRev X.K te) := by
  refine ⟨fun pins s σ H Q I h => ?_⟩
  refine Call_ (ld_blt I hg hm boot_list (PyProof.Rows.callWith_type1 (args_cons (Call_ (ld_blt I hg2 hm2 PyProof.Rows.boot_reversed (PyProof.Rows.callWith_type1 (args_cons (thn (he.run pins s σ H _ I h) fun u s1 ⟨v, H1, I1, r1, q1⟩ => args_nil ?_) hs) hs rfl))) hs2) hs2 rfl))
  obtain ⟨a, xs, rfl, hq, q⟩ := q1
  cases r1
  obtain ⟨its, rv, p', hz⟩ := I1.list hq
  refine call_reversed_list p'.isList (args_nil ?_)
  have k0 : ∀ b o, s1.heap.get? b = some o → (s1.heap.push (revObj a ((its.toArray.size : Int) - 1))).get? b = some o := fun b o z => Heap.get?_push_of_some _ z
  have I2 : Inv X pins σ H1 { s1 with heap := s1.heap.push (revObj a ((its.toArray.size : Int) - 1)) } := I1.kept (t' := s1.toks) k0
  obtain ⟨f0, f1, f2, f3, f4, f5⟩ := I1.fpOk (H' := H1) (b := s1.heap.objs.size) (Nat.le_refl _) (I1.hok.fresh (Nat.le_refl _))
  have hl := p'.isList
  obtain ⟨ol, hol, _⟩ := id hl
  have hne : a ≠ s1.heap.objs.size := Nat.ne_of_lt (Heap.lt_size hol)
  have hn : its.toArray.size ≤ sizeLine := by rw [List.size_toArray, ← rv.length]; exact hz
  refine call_list_rev (s := { s1 with heap := s1.heap.push (revObj a ((its.toArray.size : Int) - 1)) }) (I1.ok.hd hc) ⟨_, Heap.get?_push_size _ rfl, rfl, rfl⟩ (hl.push _) hne hn fun h' tk acc c hk hD hi => ?_
  have hsz : (s1.heap.push (revObj a ((its.toArray.size : Int) - 1))).objs.size = s1.heap.objs.size + 1 := size_push' ..
  refine ⟨.ref _, upd H1 _ (.lst xs.reverse), I1.laid (t' := tk) (fun b o z => hk b o (Nat.ne_of_lt (Heap.lt_size z)) (k0 b o z)) (by rw [hsz]; exact Nat.le_succ _) (show ObjOk X.prog X.w _ _ _ (.lst xs.reverse) from ⟨by rw [List.length_reverse]; exact hz, acc.toList, c, vals_rev rv hi, ?_⟩), rfl, q _ (I1.hok.fresh (by rw [hsz]; exact Nat.le_succ _))⟩
  rw [Array.toArray_toList]
  exact hD
end
end RT
namespace Eng
open PySem PySem.Spec PyProof.Rows L2
section
variable {X : Cx}
theorem ints_in {a : List Value} {ks : List Int} (hl : a.length = ks.length) (h : ∀ (j : Nat) (v : Value), a[j]? = some v → ∃ (x : Int) (t : Tok), ks[j]? = some x ∧ v = Value.int x t) : IntsAre a ks := ints_each hl h
/-- sorted(d), the keys ints -/
theorem sorted_dK (hcalm : X.calm = true) {H : Hp} {a : Addr} {kvs : List (Key × V)} {ks : List Int} {Q : VK} (hd : H a = some (.dK kvs)) (hks : kvs.map (·.1) = ks.map Sum.inl)
    (q : ∀ p, H p = none → Q (.ref p) (upd H p (.lst ((sortI ks).map V.int)))) : cW X (.builtin "sorted") [.ref a] H Q := by
  intro pins s σ us I r
  obtain ⟨u, eu, rx⟩ := vals1 r
  subst eu
  cases rx
  obtain ⟨z, lo, vs, rel, dd⟩ := dk_rd I.hok (.inl hd)
  obtain ⟨ep, hat⟩ := dd.dictAt
  have hkeys : vs.map (·.1) = ks.map Sum.inl := rel.keys.symm.trans hks
  have hl : vs.length = ks.length := by
    have e := congrArg List.length hkeys
    rw [List.length_map, List.length_map] at e
    exact e
  have h16 : vs.length ≤ sizeLine := by rw [← rel.length]; exact z
  refine Calls.call_function_entry PyProof.Rows.kind_sorted PyProof.Rows.plain_sorted PyProof.Rows.entry_sorted (PyProof.Rows.args_sorted1 _) ?_
  unfold Builtin.«sorted»
  refine wpAny_bind (m := checkCount "sorted" 1 1 _) (wpAny_pure ?_)
  refine wpAny_bind (PySem.W.kdu_collect (A := X.A.in1) (PySem.W.kdl_dict (knd := mixKind X.prog X.w) (kvs := vs) (ep := ep) lo) (I.ok.hd hcalm) hat h16 fun h' tk acc hk hacc => ?_)
  have hal : acc.toList.length = ks.length := by rw [Array.length_toList, hacc.1, hl]
  have hS : IntsAre acc.toList ks := ints_in hal fun j v e => by
    obtain ⟨k, x, e1, e2⟩ := hacc.2 j v (by rw [← Array.getElem?_toList]; exact e)
    have e3 : (vs.map (·.1))[j]? = some k := by rw [List.getElem?_map, e1]; rfl
    rw [hkeys, List.getElem?_map] at e3
    cases e4 : ks[j]? with
    | none => rw [e4] at e3; cases e3
    | some y =>
      rw [e4] at e3
      cases (Option.some.inj e3 : Sum.inl y = k)
      rcases keyIs_shape (show keyIs (Sum.inl y) v = true from e2) with ⟨i, t, ek, ev⟩ | ⟨z, t, ek, ev⟩
      · cases ek
        exact ⟨y, t, rfl, ev⟩
      · cases ek
  have hz2 : acc.toList.length ≤ sizeLine := by rw [hal, ← hl]; exact h16
  have I1 : Inv X pins σ H { s with heap := h', toks := tk } := I.kept hk
  refine wpAny_bind (wpAny_newList ?_ hz2)
  have hoL : (h'.push (seqObj "list" acc.toList.toArray 0)).get? h'.objs.size = some (seqObj "list" acc.toList.toArray 0) := Heap.get?_push_size _ rfl
  show wpAny _ _ _ _ _ { s with heap := h'.push (seqObj "list" acc.toList.toArray 0), toks := tk }
  refine wpAny_bind (wpAny_holding (wpAny_call_entry PyProof.Rows.slot_list_sort ⟨_, hoL, rfl⟩ PyProof.Rows.entry_list_sort
    (SrtO.list_sort_ord (s := { s with heap := h'.push (seqObj "list" acc.toList.toArray 0), toks := tk }) SrtO.swo_int hoL hz2 (fun h2 => SrtO.ints_sortable hS h2) fun out g1 g2 => ⟨_, rfl, ?_⟩) (PyProof.Rows.args_list_sort _)))
  obtain ⟨k1, k2, k3⟩ := SrtO.ints_out hS g1 g2
  obtain ⟨e', he'⟩ := PyProof.Rows.sortedHeap_at (vs := acc.toList) (out := out.toArray) hoL
  have hlen : ((out.map SrtO.iv).map V.int).length ≤ sizeLine := by
    rw [List.length_map, k2.length_eq, ← hl]
    exact h16
  have q' := q h'.objs.size (I1.hok.fresh (Nat.le_refl _))
  rw [← sortI_unique k2 k3] at q'
  refine wpAny_pure ⟨_, rfl, .ref h'.objs.size, upd H h'.objs.size (.lst ((out.map SrtO.iv).map V.int)), I1.laid (t' := tk) (fun b u e => ?_) (Nat.le_refl _)
    (show ObjOk X.prog X.w _ _ _ (.lst ((out.map SrtO.iv).map V.int)) from ⟨hlen, out, e', vals_of_ints k1, he'⟩), rfl, q'⟩
  have hb : b < h'.objs.size := Heap.lt_size e
  rw [PyProof.Rows.sortedHeap_old (Nat.ne_of_lt hb) (by rw [size_push']; exact Nat.lt_succ_of_lt hb)]
  exact Heap.get?_push_of_some _ e

theorem ints_pair {F : Hp} {ks : List Key} {p : Int × Int} (h : pairOf (.tuple (ks.map ofKey)) = some p) : ks.map kV = [V.int p.1, V.int p.2] := by
  cases ks with
  | nil => simp [pairOf] at h
  | cons k ks =>
    cases ks with
    | nil => cases k <;> simp [pairOf, ofKey] at h
    | cons k2 ks =>
      cases ks with
      | nil =>
        cases k <;> cases k2 <;> simp [pairOf, ofKey] at h
        subst h
        rfl
      | cons k3 ks => cases k <;> cases k2 <;> simp [pairOf, ofKey] at h
theorem keys_pairs {H : Hp} : ∀ {kvs : List (List Key × V)} {kvs2 : List (List Key × D)} {bs : List Addr} {ps : List (Int × Int)}, IsKeys H kvs bs → kvs.map (·.1) = kvs2.map (·.1) → pairsOf (kvs2.map fun kv => .tuple (kv.1.map ofKey)) = some ps →
    Paired (fun b (p : Int × Int) => H b = some (.tup [.int p.1, .int p.2])) bs ps := by
  intro kvs kvs2 bs ps h
  unfold IsKeys at h
  induction h generalizing kvs2 ps with
  | nil =>
    intro e1 e2
    cases kvs2 with
    | nil => simp [pairsOf] at e2; subst e2; exact .nil
    | cons _ _ => simp at e1
  | @cons kv b kvs bs hb t ih =>
    intro e1 e2
    cases kvs2 with
    | nil => simp at e1
    | cons kv2 kvs2 =>
      simp only [List.map_cons, List.cons.injEq] at e1
      simp only [List.map_cons, pairsOf] at e2
      obtain ⟨p, h1, h2⟩ := Option.bind_eq_some_iff.mp e2
      obtain ⟨ps', h3, h4⟩ := Option.map_eq_some_iff.mp h2
      subst h4
      refine .cons ?_ (ih e1.2 h3)
      rw [e1.1] at hb
      rw [ints_pair (F := H) h1] at hb
      exact hb
theorem paired_mem {bs : List Addr} {ps : List (Int × Int)} {H : Hp} (h : Paired (fun b (p : Int × Int) => H b = some (.tup [.int p.1, .int p.2])) bs ps) : (∀ b ∈ bs, ∃ i j, H b = some (.tup [.int i, .int j])) ∧ bs.map (fun b => pk H (.ref b)) = ps := by
  induction h with
  | nil => exact ⟨by simp, rfl⟩
  | @cons b p bs ps hb t ih =>
    refine ⟨fun c hc => ?_, ?_⟩
    · rcases List.mem_cons.mp hc with rfl | hc
      · exact ⟨_, _, hb⟩
      · exact ih.1 c hc
    · rw [List.map_cons, ih.2, pk_at hb]
/-- sorted(d), the keys pairs of ints: their own tuples, in order -/
theorem sorted_dT (hcalm : X.calm = true) {H : Hp} {a : Addr} {kvs : List (List Key × V)} {kvs2 : List (List Key × D)} {ps : List (Int × Int)} {Q : VK} (hd : H a = some (.dT kvs)) (hk : kvs.map (·.1) = kvs2.map (·.1)) (hp : pairsOf (kvs2.map fun kv => .tuple (kv.1.map ofKey)) = some ps)
    (q : ∀ (p : Addr) (bs : List Addr), H p = none → (∀ b ∈ bs, ∃ i j, H b = some (.tup [.int i, .int j])) → bs.map (fun b => pk H (.ref b)) = sortP ps → Q (.ref p) (upd H p (.lst (bs.map V.ref)))) : cW X (.builtin "sorted") [.ref a] H Q := by
  intro pins s σ us I r
  obtain ⟨u, eu, rx⟩ := vals1 r
  subst eu
  cases rx
  obtain ⟨z, hs, ks, pr, o, es, ep, ho, hx, hdt, he, hn⟩ := (show ObjOk X.prog X.w H s.heap a (.dT kvs) from (Rd.of hd).ok I.hok)
  have l1 : es.size = ks.length := size_of_entries he
  have l2 : kvs.length = ks.length := Paired.length pr
  refine Calls.call_function_entry PyProof.Rows.kind_sorted PyProof.Rows.plain_sorted PyProof.Rows.entry_sorted (PyProof.Rows.args_sorted1 _) ?_
  unfold Builtin.«sorted»
  refine wpAny_bind (m := checkCount "sorted" 1 1 _) (wpAny_pure ?_)
  refine wpAny_bind (PySem.W.kdu_collect (A := X.A.in1) (kdl_raw hs hx hdt) (I.ok.hd hcalm) ho (by omega) fun h' tk acc hkk hacc => ?_)
  have ea : acc.toList = (ks.map fun x => x.2.1).map Value.ref := by
    have hl : acc.toList.length = ks.length := by rw [Array.length_toList, hacc.1]; exact l1
    apply List.ext_getElem?
    intro j
    rw [List.getElem?_map, List.getElem?_map]
    cases hj : acc.toList[j]? with
    | none =>
      have h1 := List.getElem?_eq_none_iff.mp hj
      rw [List.getElem?_eq_none (by omega)]
      rfl
    | some v =>
      obtain ⟨en, hen, hv⟩ := hacc.2 j v (by rw [← Array.getElem?_toList]; exact hj)
      have qe := entry_at he j
      rw [hen] at qe
      cases hb : ks[j]? with
      | none => rw [hb] at qe; cases qe
      | some b =>
        rw [hb] at qe
        have e2 : en = entryOfKey (tupleKind (mixKind X.prog X.w)) b := Option.some.inj qe
        rw [hv, e2]
        rfl
  obtain ⟨hb1, hb2⟩ := paired_mem (keys_pairs (isKeys_of pr) hk hp)
  have I1 : Inv X pins σ H { s with heap := h', toks := tk } := I.kept hkk
  have hz2 : acc.toList.length ≤ sizeLine := by rw [ea, List.length_map, List.length_map]; omega
  have hpair : ∀ v ∈ acc.toList, Srt.IsPair h' v (pk H (backV v)).1 (pk H (backV v)).2 := fun v hv => by
    rw [ea] at hv
    obtain ⟨b, hb, rfl⟩ := List.mem_map.mp hv
    obtain ⟨i, j, eb⟩ := hb1 b hb
    show Srt.IsPair h' (Value.ref b) (pk H (.ref b)).1 (pk H (.ref b)).2
    rw [pk_at eb]
    obtain ⟨_, its2, r2, o, ho, hc, n, hd⟩ := I1.hok _ _ eb
    obtain ⟨u1, u2, rfl, ri, rj⟩ := vals2 r2
    obtain ⟨t1, rfl⟩ := ri
    obtain ⟨t2, rfl⟩ := rj
    exact ⟨b, o, t1, t2, n, rfl, ho, hc, hd⟩
  refine wpAny_bind (wpAny_newList ?_ hz2)
  have hoL : (h'.push (seqObj "list" acc.toList.toArray 0)).get? h'.objs.size = some (seqObj "list" acc.toList.toArray 0) := Heap.get?_push_size _ rfl
  show wpAny _ _ _ _ _ { s with heap := h'.push (seqObj "list" acc.toList.toArray 0), toks := tk }
  refine wpAny_bind (wpAny_holding (wpAny_call_entry PyProof.Rows.slot_list_sort ⟨_, hoL, rfl⟩ PyProof.Rows.entry_list_sort
    (SrtO.list_sort_ord (s := { s with heap := h'.push (seqObj "list" acc.toList.toArray 0), toks := tk }) (SrtO.swo_lex fun u => pk H (backV u)) hoL hz2 (fun h2 => SrtO.pairs_sortableO (by omega) (fun v hv => (hpair v hv).keeps fun b o e _ => Heap.get?_push_of_some _ e) fun o e => ?_) fun out g1 g2 => ⟨_, rfl, ?_⟩) (PyProof.Rows.args_list_sort _)))
  · have e' : some o = some (seqObj "list" acc.toList.toArray 0) := e.symm.trans hoL
    cases e'
    intro c
    exact absurd (Value.type.inj c) (by decide)
  · obtain ⟨e', he'⟩ := PyProof.Rows.sortedHeap_at (vs := acc.toList) (out := out.toArray) hoL
    have h3 : ∀ u ∈ out, ∃ b, b ∈ (ks.map fun x => x.2.1) ∧ u = Value.ref b := fun u hu => by
      have := g2.perm.mem_iff.mp hu
      rw [ea] at this
      obtain ⟨b, hb, rfl⟩ := List.mem_map.mp this
      exact ⟨b, hb, rfl⟩
    obtain ⟨bs, hbs⟩ : ∃ bs : List Addr, out = bs.map Value.ref ∧ ∀ b ∈ bs, b ∈ (ks.map fun x => x.2.1) := by
      clear g1 g2 he' e'
      induction out with
      | nil => exact ⟨[], rfl, by simp⟩
      | cons u out ih =>
        obtain ⟨b, hb, rfl⟩ := h3 u (by simp)
        obtain ⟨bs, e1, e2⟩ := ih fun v hv => h3 v (List.mem_cons_of_mem _ hv)
        exact ⟨b :: bs, by rw [e1]; rfl, fun c hc => by
          rcases List.mem_cons.mp hc with rfl | hc
          · exact hb
          · exact e2 c hc⟩
    obtain ⟨rfl, hin⟩ := hbs
    have hlen : (bs.map V.ref).length ≤ sizeLine := by
      have := g2.perm.length_eq
      rw [List.length_map] at this ⊢
      rw [this]
      exact hz2
    have hperm : (bs.map (fun b => pk H (.ref b))).Perm ps := by
      rw [← hb2]
      have := (g2.perm.map fun u => pk H (backV u))
      rw [ea, List.map_map, List.map_map] at this
      exact this
    have hsrt : (bs.map (fun b => pk H (.ref b))).Pairwise (fun p q => leP p q = true) := by
      have g3 := List.pairwise_map.mp g1
      refine List.pairwise_map.mpr (List.Pairwise.imp ?_ g3)
      intro x y hxy
      have := SrtO.lexB_no.mp hxy
      exact leP_iff.mpr (by simp only [backV] at this; omega)
    have q' := q h'.objs.size bs (I1.hok.fresh (Nat.le_refl _)) (fun b hb => hb1 b (hin b hb)) (sortP_unique hperm hsrt)
    refine wpAny_pure ⟨_, rfl, .ref h'.objs.size, upd H h'.objs.size (.lst (bs.map V.ref)), I1.laid (t' := tk) (fun b u e => ?_) (Nat.le_refl _)
      (show ObjOk X.prog X.w _ _ _ (.lst (bs.map V.ref)) from ⟨hlen, bs.map Value.ref, e', vals_refs bs, he'⟩), rfl, q'⟩
    have hb : b < h'.objs.size := Heap.lt_size e
    rw [PyProof.Rows.sortedHeap_old (Nat.ne_of_lt hb) (by rw [size_push']; exact Nat.lt_succ_of_lt hb)]
    exact Heap.get?_push_of_some _ e

/-! ### the dicts' ones beside biF_ok -/
theorem keysK_ints {F : Hp} {kvs' : List (Key × V)} {kvs : List (Key × D)} (r : KVs F kvs' kvs) {is : List Int} (h : intsOf (kvs.map fun kv => ofKey kv.1) = some is) : kvs'.map (·.1) = is.map Sum.inl := by
  unfold KVs at r
  induction r generalizing is with
  | nil => cases h; rfl
  | @cons p q ps qs e t ih =>
    simp only [List.map_cons] at h
    obtain ⟨k, d⟩ := q
    cases k with
    | inr x => simp [ofKey, intsOf] at h
    | inl i =>
      simp only [ofKey, intsOf] at h
      obtain ⟨js, h1, h2⟩ := Option.map_eq_some_iff.mp h
      subst h2
      rw [List.map_cons, ih h1, e.1]
      rfl
theorem keysT_eq {F : Hp} {kvs' : List (List Key × V)} {kvs : List (List Key × D)} (r : KVs F kvs' kvs) : kvs'.map (·.1) = kvs.map (·.1) := by
  unfold KVs at r
  induction r with
  | nil => rfl
  | cons e t ih => rw [List.map_cons, List.map_cons, ih, e.1]
theorem keysK_noPairs : ∀ (kvs : List (Key × D)), kvs ≠ [] → pairsOf (kvs.map fun kv => ofKey kv.1) = none
  | [], h => absurd rfl h
  | (k, d) :: r, _ => by cases k <;> simp [pairsOf, pairOf, ofKey]
theorem keysT_noInts : ∀ (kvs : List (List Key × D)), kvs ≠ [] → intsOf (kvs.map fun kv => PyData.tuple (kv.1.map ofKey)) = none
  | [], h => absurd rfl h
  | (k, d) :: r, _ => by simp [intsOf]
theorem sorted_dict (hc : X.calm = true) {F H : Hp} {v : V} {t u : T} {Q : VK} (hd : (∃ b kvs, t = .dK b kvs) ∨ ∃ b kvs, t = .dT b kvs) (h : biF .sorted [t] = some u) (s : Same F H) (o : Vw X.K F H v t)
    (q : ∀ z F' H' g, Res X.K F H z u F' H' g → Q z H') : cW X (.builtin "sorted") [v] H Q := by
  rcases hd with ⟨b, kvs, rfl⟩ | ⟨b, kvs, rfl⟩
  · obtain ⟨a, kvs', rfl, ea, r⟩ := o.dK_inv
    obtain ⟨es, h1, h2⟩ := Option.map_eq_some_iff.mp (show (sortD (kvs.map fun kv => ofKey kv.1)).map freshL = some u from h)
    subst h2
    unfold sortD at h1
    split at h1
    · rename_i is hi
      cases h1
      exact sorted_dK hc ea (keysK_ints r hi) fun p n => q _ _ _ _ (Res.lst s n (Rps.ofInts _))
    · rename_i hi
      have hne : kvs ≠ [] := fun e => by subst e; simp [intsOf] at hi
      rw [keysK_noPairs kvs hne] at h1
      cases h1
  · obtain ⟨a, kvs', rfl, ea, r⟩ := o.dT_inv
    obtain ⟨es, h1, h2⟩ := Option.map_eq_some_iff.mp (show (sortD (kvs.map fun kv => PyData.tuple (kv.1.map ofKey))).map freshL = some u from h)
    subst h2
    have hp : ∃ ps, pairsOf (kvs.map fun kv => PyData.tuple (kv.1.map ofKey)) = some ps ∧ es = (sortP ps).map dP := by
      unfold sortD at h1
      split at h1
      · rename_i is hi
        cases h1
        by_cases hne : kvs = []
        · subst hne
          simp only [List.map_nil, intsOf, Option.some.injEq] at hi
          subst hi
          exact ⟨[], rfl, rfl⟩
        · rw [keysT_noInts kvs hne] at hi; cases hi
      · split at h1
        · rename_i ps hp
          cases h1
          exact ⟨ps, hp, rfl⟩
        · cases h1
    obtain ⟨ps, hp1, rfl⟩ := hp
    refine sorted_dT hc ea (keysT_eq r) hp1 fun p bs n hb he => ?_
    have st1 : Step F H [] (addF F H bs) H [] := Step.tups s fun b hb' => let ⟨i, j, e⟩ := hb b hb'; ⟨_, e⟩
    have hF : ∀ v ∈ bs.map V.ref, ∃ a i j, v = V.ref a ∧ addF F H bs a = some (.tup [.int i, .int j]) := fun v hv => by
      obtain ⟨b, hb', rfl⟩ := List.mem_map.mp hv
      obtain ⟨i, j, e⟩ := hb b hb'
      exact ⟨b, i, j, rfl, by rw [addF_in hb']; exact e⟩
    have r1 : Rps (addF F H bs) (bs.map V.ref) ((sortP ps).map dP) := by
      have r2 := rps_pk hF
      have e3 : (bs.map V.ref).map (pk (addF F H bs)) = sortP ps := by
        rw [← he, List.map_map]
        refine List.map_congr_left fun b hb' => ?_
        obtain ⟨i, j, e⟩ := hb b hb'
        show pk (addF F H bs) (.ref b) = pk H (.ref b)
        rw [pk_at e, pk_at (by rw [addF_in hb']; exact e)]
      rw [e3] at r2
      exact r2
    have R := Res.lst (K := X.K) st1.fh n r1
    exact q _ _ _ _ ⟨st1.trans R.step, R.own, R.nd⟩
end
end Eng

/-! ### Eng9 -/
/-! Eng9: expressions, one by one. -/
namespace Eng
open PySem PySem.Spec PyProof.Rows L2

/-- behind several expressions -/
structure PostL (K : PySem.W.Frag) (F H : Hp) (f : List Addr) (σ : L2.St) (vs : List V) (ts : List T) (s' : S) (F' H' : Hp) (g h : List Addr) : Prop where
  step : Step F H f F' H' (g ++ h)
  own : Owns K F' H' vs ts g
  sl : Sls K F' H' σ s' h
  nd : (g ++ h).Nodup
def SEs (X : Cx) (es : List Expr) (m : S → Option (List T × S)) : Prop := ∀ (σ : L2.St) (s : S) (F H : Hp) (f : List Addr) (ts : List T) (s' : S) (Q : List V → Hp → Prop), Rel X.K F H σ s f → m s = some (ts, s') →
  (∀ vs F' H' g h, PostL X.K F H f σ vs ts s' F' H' g h → Q vs H') → aW X es σ H Q
section
variable {K : PySem.W.Frag} {F F' F2 H H' H2 : Hp} {σ : L2.St} {s s' s2 : S} {f g h g2 h2 : List Addr} {v : V} {vs : List V} {t : T} {ts : List T} {ds : List D}
theorem PostL.rel (p : PostL K F H f σ vs ts s' F' H' g h) : Rel K F' H' σ s' h := ⟨p.step.fh, p.sl, (List.nodup_append.mp p.nd).2.1⟩
theorem PostL.fix (p : PostL K F H f σ vs ts s' F' H' g h) : Step F H f (addF F' H' g) H' h ∧ Rel K (addF F' H' g) H' σ s' h := by
  have k : Keeps F' H' (addF F' H' g) H' h := ⟨addF_same fun a m => (p.own.has a m).1, fun a m => ⟨rfl, by
    rw [addF_out (nd_apart p.nd a m)]
    exact (p.rel.has a m).1⟩⟩
  exact ⟨p.step.trans (Step.fix p.step.fh fun a m => (p.own.has a m).1), addF_heap p.step.fh, p.sl.keep k, (List.nodup_append.mp p.nd).2.1⟩
/-- all of them data -/
theorem PostL.data (p : PostL K F H f σ vs ts s' F' H' g h) (e : T.datas ts = some ds) : Step F H f (addF F' H' g) H' h ∧ Rps (addF F' H' g) vs ds ∧ Rel K (addF F' H' g) H' σ s' h :=
  ⟨p.fix.1, p.own.data e (addF_same fun a m => (p.own.has a m).1) fun a m => addF_in m, p.fix.2⟩
theorem PostL.nil (r : Rel K F H σ s f) : PostL K F H f σ [] [] s F H [] f := ⟨Step.refl r.same, .nil, r.sl, r.nd⟩
theorem PostL.cons (p : Post K F H f σ v t s' F' H' g h) (q : PostL K F' H' h σ vs ts s2 F2 H2 g2 h2) : PostL K F H f σ (v :: vs) (t :: ts) s2 F2 H2 (g ++ g2) h2 := by
  have k := q.step.keeps (g := g) (nd_apart' p.nd) p.has
  have ap := q.step.apart (g := g) (nd_apart' p.nd) fun b m => let ⟨_, o, e, _⟩ := p.has b m; ⟨o, e⟩
  refine ⟨?_, .cons (p.own.keep k) q.own, q.sl, ?_⟩
  · rw [List.append_assoc]
    exact p.step.trans (q.step.frame g)
  · rw [List.append_assoc]
    exact nd_app (List.nodup_append.mp p.nd).1 q.nd ap
/-- of one value: no owned thing beside -/
theorem Post.ofRel (r : Rel K F H σ s f) {d : D} (q : Rp F v d) : Post K F H f σ v (.dat d) s F H [] f := ⟨Step.refl r.same, .dat q, r.sl, r.nd⟩
theorem Rel.varF {i : Nat} (r : Rel K F H σ s f) {u : T} (e : getS s i = some t) (e2 : T.frz t = some u) : ∃ v F' h, σ[i]? = some (some v) ∧ Post K F H f σ v u (s.set i (some u)) F' H [] h := by
  obtain ⟨v, g, r1, q1, q2, q3, q4⟩ := r.sl.take e
  have nd := q4.nodup_iff.mp r.nd
  have hg : ∀ a ∈ g, F a = none := fun a m => (q2.has a m).1
  have st : Step F H f (addF F H g) H r1 := (Step.fix r.same hg).mono (fun b m => q4.mem_iff.mpr m) fun b m => m
  have k : Keeps F H (addF F H g) H r1 := ⟨addF_same hg, fun a m => ⟨rfl, by
    rw [addF_out (nd_apart nd a m)]
    exact (q3.has a m).1⟩⟩
  have o : Own K (addF F H g) H v u [] := q2.frz e2 (addF_same hg) fun a m => addF_in m
  exact ⟨v, addF F H g, r1, q1, st, o, (q3.keep k).back q1 o, (List.nodup_append.mp nd).2.1⟩
theorem Rel.varM {i : Nat} (r : Rel K F H σ s f) (e : getS s i = some t) : ∃ v g h, σ[i]? = some (some v) ∧ Post K F H f σ v t (s.set i none) F H g h := by
  obtain ⟨v, g, r1, q1, q2, q3, q4⟩ := r.sl.take e
  exact ⟨v, g, r1, q1, (Step.refl r.same).mono (fun b m => m) fun b m => q4.mem_iff.mpr m, q2, q3, q4.nodup_iff.mp r.nd⟩
end
section
variable {X : Cx} {a b c e : Expr} {ma mb mc : S → Option (T × S)} {pos : Pos}
theorem se_const {v : V} {d : D} (h : PE X e (tC v)) (r : ∀ F, Rp F v d) : SE X e fun s => some (.dat d, s) := fun σ s F H f t s' Q rel em q => by
  cases em
  exact tW.of h (q v F H [] f (.ofRel rel (r F)))
theorem se_var {i : Nat} {x : Str} (h : PE X (.Name x pos) (tVar i)) : SE X (.Name x pos) fun s => match getS s i with
    | some (.dat d) => some (.dat d, s)
    | some t => (T.frz t).map fun t' => (t', s.set i (some t'))
    | none => none := fun σ s F H f t s' Q rel em q => by
  simp only at em
  split at em
  · rename_i d e1
    cases em
    obtain ⟨v, g, r1, q1, q2, q3, q4⟩ := rel.sl.take e1
    obtain ⟨hg, rp⟩ := q2.dat_inv
    exact tW.of h ⟨v, q1, q v F H [] f (.ofRel rel rp)⟩
  · rename_i t1 _ e1
    obtain ⟨t2, e2, e3⟩ := Option.map_eq_some_iff.mp em
    cases e3
    obtain ⟨v, F', h1, q1, p⟩ := rel.varF e1 e2
    exact tW.of h ⟨v, q1, q v F' H [] h1 p⟩
  · cases em
theorem se_mv {i : Nat} {x : Str} (h : PE X (.Name x pos) (tVar i)) : SE X (.Name x pos) fun s => (getS s i).map fun t => (t, s.set i none) := fun σ s F H f t s' Q rel em q => by
  obtain ⟨t1, e1, e2⟩ := Option.map_eq_some_iff.mp em
  cases e2
  obtain ⟨v, g, h1, q1, p⟩ := rel.varM e1
  exact tW.of h ⟨v, q1, q v F H g h1 p⟩
theorem se_bin {o : BOp} (ha : SE X a ma) (hb : SE X b mb) : SE X (.BinOp a (opOf o) b pos) fun s => bnd (dOf (ma s)) fun x s => bnd (dOf (mb s)) fun y s => (binD o x y).map fun t => (t, s) :=
  fun σ s F H f t s' Q r em q => by
  obtain ⟨x, s1, h1, em⟩ := bnd_eq em
  obtain ⟨y, s2, h2, em⟩ := bnd_eq em
  obtain ⟨u, h3, h4⟩ := Option.map_eq_some_iff.mp em
  cases h4
  refine tW.of (pe_op op_w pe_w pe_w) (ha.d σ s F H f x s1 _ r h1 fun v F1 H1 g1 p1 => hb.d σ s1 F1 H1 g1 y _ _ p1.rel h2 fun w F2 H2 g2 p2 => ?_)
  obtain ⟨p, rv⟩ := p1.onD p2
  exact binD_ok h3 p.rel.same rv p.rp fun z F3 H3 g3 R => q z F3 H3 g3 g2 (R.post p.step p.rel)
theorem se_un {o : UOp} (ho : o ≠ .nt) (ha : SE X a ma) : SE X (.UnaryOp (uopOf o) a pos) fun s => bnd (dOf (ma s)) fun x s => (unD o x).map fun d => (.dat d, s) := fun σ s F H f t s' Q r em q => by
  obtain ⟨x, s1, h1, em⟩ := bnd_eq em
  obtain ⟨u, h3, h4⟩ := Option.map_eq_some_iff.mp em
  cases h4
  refine tW.of (pe_un un_w pe_w) (ha.d σ s F H f x _ _ r h1 fun v F1 H1 g1 p1 => ?_)
  exact unD_ok ho h3 p1.rel.same p1.rp fun z rz => q z F1 H1 [] g1 (PostD.post ⟨p1.step, rz, p1.rel⟩)
theorem SE.bool {m : S → Option (T × S)} (h : SE X e m) {σ : L2.St} {s s' : S} {F H : Hp} {f : List Addr} {c : Bool} {Q : VK} (r : Rel X.K F H σ s f) (em : boolOf (m s) = some (c, s'))
    (q : ∀ F' H' g, Step F H f F' H' g → Rel X.K F' H' σ s' g → Q (.bl c) H') : tW X e σ H Q :=
  h σ s F H f _ s' Q r (boolOf_eq em) fun v F' H' g k p => by
    have p2 := p.dat
    have e : v = .bl c := by cases p2.rp; rfl
    rw [e]
    exact q F' H' k p2.step p2.rel
theorem se_nt (ha : SE X a ma) : SE X (.UnaryOp .Not a pos) fun s => bnd (dOf (ma s)) fun x s => (unD .nt x).map fun d => (.dat d, s) := fun σ s F H f t s' Q r em q => by
  obtain ⟨x, s1, h1, em⟩ := bnd_eq em
  obtain ⟨u, h3, h4⟩ := Option.map_eq_some_iff.mp em
  cases h4
  refine tW.of (pe_not pe_w) (ha.d σ s F H f x _ _ r h1 fun v F1 H1 g1 p1 => ?_)
  unfold unD at h3
  split at h3
  · cases (‹UOp.nt = UOp.neg›)
  · cases (‹UOp.nt = UOp.inv›)
  · cases h3
    have rp := p1.rp
    cases rp with
    | bl => exact ⟨_, rfl, q _ F1 H1 [] g1 (PostD.post ⟨p1.step, .bl _, p1.rel⟩)⟩
  · cases h3
theorem se_and {rest : List Expr} (ha : SE X a ma) (hb : SE X (.BoolOp .And (b :: rest) pos) mb) : SE X (.BoolOp .And (a :: b :: rest) pos) fun s => bnd (boolOf (ma s)) fun c s => if c then mb s else some (.dat (.bool false), s) :=
  fun σ s F H f t s' Q r em q => by
  obtain ⟨x, s1, h1, em⟩ := bnd_eq em
  refine tW.of (pe_and pe_w pe_w) (ha.bool r h1 fun F1 H1 g1 st r1 => ⟨x, rfl, ?_⟩)
  cases x with
  | true =>
    rw [if_pos rfl] at em ⊢
    exact hb σ s1 F1 H1 g1 t s' Q r1 em fun v F2 H2 g h p => q v F2 H2 g h ⟨st.trans p.step, p.own, p.sl, p.nd⟩
  | false =>
    rw [if_neg Bool.false_ne_true] at em ⊢
    cases em
    exact q _ F1 H1 [] g1 (PostD.post ⟨st, .bl _, r1⟩)
theorem se_or {rest : List Expr} (ha : SE X a ma) (hb : SE X (.BoolOp .Or (b :: rest) pos) mb) : SE X (.BoolOp .Or (a :: b :: rest) pos) fun s => bnd (boolOf (ma s)) fun c s => if c then some (.dat (.bool true), s) else mb s :=
  fun σ s F H f t s' Q r em q => by
  obtain ⟨x, s1, h1, em⟩ := bnd_eq em
  refine tW.of (pe_or pe_w pe_w) (ha.bool r h1 fun F1 H1 g1 st r1 => ⟨x, rfl, ?_⟩)
  cases x with
  | false =>
    rw [if_neg Bool.false_ne_true] at em ⊢
    exact hb σ s1 F1 H1 g1 t s' Q r1 em fun v F2 H2 g h p => q v F2 H2 g h ⟨st.trans p.step, p.own, p.sl, p.nd⟩
  | true =>
    rw [if_pos rfl] at em ⊢
    cases em
    exact q _ F1 H1 [] g1 (PostD.post ⟨st, .bl _, r1⟩)
theorem se_one {op : BoolOp} (ha : SE X a ma) : SE X (.BoolOp op [a] pos) ma := fun σ s F H f t s' Q r em q => tW.of (pe_one pe_w) (ha σ s F H f t s' Q r em q)
theorem se_ife {mt : S → Option (Bool × S)} (hc : ST X c mt) (ha : SE X a ma) (hb : SE X b mb) : SE X (.IfExp c a b pos) fun s => bnd (mt s) fun k s => if k then ma s else mb s := fun σ s F H f t s' Q r em q => by
  obtain ⟨x, s1, h1, em⟩ := bnd_eq em
  refine tW.of (pe_ifExp pt_w pe_w pe_w) (hc σ s F H f x s1 _ r h1 fun F1 H1 g1 st r1 => ?_)
  cases x with
  | true =>
    rw [if_pos rfl] at em ⊢
    exact ha σ s1 F1 H1 g1 t s' Q r1 em fun v F2 H2 g h p => q v F2 H2 g h ⟨st.trans p.step, p.own, p.sl, p.nd⟩
  | false =>
    rw [if_neg Bool.false_ne_true] at em ⊢
    exact hb σ s1 F1 H1 g1 t s' Q r1 em fun v F2 H2 g h p => q v F2 H2 g h ⟨st.trans p.step, p.own, p.sl, p.nd⟩

/-! ### tests -/
theorem st_val (ha : SE X a ma) (he : ∀ whole, isTrue a X.env whole = (do let v ← whole; standAt a.pos; holding [v] (truthy v))) : ST X a fun s => boolOf (ma s) := fun σ s F H f b s' Q r em q =>
  ttW.of (pt_val pe_w he) (ha.bool r em fun F' H' g st r' => ⟨b, rfl, q F' H' g st r'⟩)
theorem st_not {mt : S → Option (Bool × S)} (ha : ST X a mt) : ST X (.UnaryOp .Not a pos) fun s => (mt s).map fun p => (!p.1, p.2) := fun σ s F H f b s' Q r em q => by
  obtain ⟨⟨c, s1⟩, h1, h2⟩ := Option.map_eq_some_iff.mp em
  cases h2
  exact ttW.of (pt_not pt_w) (ha σ s F H f c s1 _ r h1 fun F' H' g st r' => q F' H' g st r')
theorem SW.st {mt : S → Option (Bool × S)} (h : SW X a mt) : ST X a mt := fun σ s F H f b s' Q r em q => ttW.of (PW.pt pw_w) (h σ s F H f b s' Q r em q)
theorem sw_one {mt : S → Option (Bool × S)} (ha : ST X a mt) : SW X (.BoolOp .And [a] pos) mt ∧ SW X (.BoolOp .Or [a] pos) mt :=
  ⟨fun σ s F H f b s' Q r em q => twW.of (pw_and1 pt_w) (ha σ s F H f b s' Q r em q), fun σ s F H f b s' Q r em q => twW.of (pw_or1 pt_w) (ha σ s F H f b s' Q r em q)⟩
theorem sw_and {rest : List Expr} {m1 m2 : S → Option (Bool × S)} (ha : ST X a m1) (hb : SW X (.BoolOp .And (b :: rest) pos) m2) : SW X (.BoolOp .And (a :: b :: rest) pos) fun s => bnd (m1 s) fun c s => if c then m2 s else some (false, s) :=
  fun σ s F H f d s' Q r em q => by
  obtain ⟨x, s1, h1, em⟩ := bnd_eq em
  refine twW.of (pw_and pt_w pw_w) (ha σ s F H f x s1 _ r h1 fun F1 H1 g1 st r1 => ?_)
  cases x with
  | true =>
    rw [if_pos rfl] at em ⊢
    exact hb σ s1 F1 H1 g1 d s' Q r1 em fun F2 H2 g2 st2 r2 => q F2 H2 g2 (st.trans st2) r2
  | false =>
    rw [if_neg Bool.false_ne_true] at em ⊢
    cases em
    exact q F1 H1 g1 st r1
theorem sw_or {rest : List Expr} {m1 m2 : S → Option (Bool × S)} (ha : ST X a m1) (hb : SW X (.BoolOp .Or (b :: rest) pos) m2) : SW X (.BoolOp .Or (a :: b :: rest) pos) fun s => bnd (m1 s) fun c s => if c then some (true, s) else m2 s :=
  fun σ s F H f d s' Q r em q => by
  obtain ⟨x, s1, h1, em⟩ := bnd_eq em
  refine twW.of (pw_or pt_w pw_w) (ha σ s F H f x s1 _ r h1 fun F1 H1 g1 st r1 => ?_)
  cases x with
  | false =>
    rw [if_neg Bool.false_ne_true] at em ⊢
    exact hb σ s1 F1 H1 g1 d s' Q r1 em fun F2 H2 g2 st2 r2 => q F2 H2 g2 (st.trans st2) r2
  | true =>
    rw [if_pos rfl] at em ⊢
    cases em
    exact q F1 H1 g1 st r1

/-! ### lists of expressions, displays -/
theorem ses_nil : SEs X [] fun s => some ([], s) := fun σ s F H f ts s' Q r em q => by
  cases em
  exact aW.of pa_nil (q [] F H [] f (.nil r))
theorem ses_cons {es : List Expr} {ms : S → Option (List T × S)} (ha : SE X e ma) (hs : SEs X es ms) (h1 : starEach (e :: es) X.env = (false, eval e X.env) :: starEach es X.env) : SEs X (e :: es) fun s => bnd (ma s) fun t s => bnd (ms s) fun ts s => some (t :: ts, s) :=
  fun σ s F H f ts s' Q r em q => by
  obtain ⟨x, s1, e1, em⟩ := bnd_eq em
  obtain ⟨xs, s2, e2, em⟩ := bnd_eq em
  cases em
  exact aW.of (pa_cons pe_w pa_w h1) (ha σ s F H f x s1 _ r e1 fun v F1 H1 g h p => hs σ _ F1 H1 h xs _ _ p.rel e2 fun vs F2 H2 g2 h2 p2 => q (v :: vs) F2 H2 (g ++ g2) h2 (.cons p p2))
theorem se_tup {es : List Expr} {k : Nat} {ms : S → Option (List T × S)} (hs : SEs X es ms) : SE X (.Tuple es k pos) fun s => bnd (ms s) fun ts s => (T.datas ts).bind fun ds => if ds.length ≤ lineN then some (.dat (.tuple ds), s) else none :=
  fun σ s F H f t s' Q r em q => by
  obtain ⟨ts, s1, e1, em⟩ := bnd_eq em
  obtain ⟨ds, e2, em⟩ := Option.bind_eq_some_iff.mp em
  split at em
  · rename_i hl
    cases em
    refine tW.of (pe_tup pa_w) (hs σ s F H f ts _ _ r e1 fun vs F1 H1 g h p => ?_)
    obtain ⟨st, rp, r1⟩ := p.data e2
    exact ⟨by rw [rp.len]; exact line_ok hl, fun a n => q _ _ _ _ _ ((Res.tup r1.same n rp).post st r1)⟩
  · cases em
theorem se_lst {es : List Expr} {ms : S → Option (List T × S)} (hs : SEs X es ms) : SE X (.List es pos) fun s => bnd (ms s) fun ts s => if ts.length ≤ lineN then some (.lst ts, s) else none :=
  fun σ s F H f t s' Q r em q => by
  obtain ⟨ts, s1, e1, em⟩ := bnd_eq em
  split at em
  · rename_i hl
    cases em
    refine tW.of (pe_lst pa_w) (hs σ s F H f ts _ _ r e1 fun vs F1 H1 g h p => ⟨by rw [p.own.len]; exact line_ok hl, fun a n => ?_⟩)
    have nF : F1 a = none := p.step.fh.free n
    have st : Step F1 H1 (g ++ h) F1 (upd H1 a (.lst vs)) (a :: (g ++ h)) := Step.newO p.step.fh n
    have k : ∀ l : List Addr, (∀ b ∈ l, ∃ o, H1 b = some o) → (∀ b ∈ l, F1 b = none) → Keeps F1 H1 F1 (upd H1 a (.lst vs)) l := fun l hl hn => ⟨Same.refl _, fun b m => ⟨upd_ne (fun z => by obtain ⟨o, e⟩ := hl b m; rw [z, n] at e; cases e), hn b m⟩⟩
    have hg : ∀ b ∈ g, ∃ o, H1 b = some o := fun b m => let ⟨_, o, e, _⟩ := p.own.has b m; ⟨o, e⟩
    have hh : ∀ b ∈ h, ∃ o, H1 b = some o := fun b m => let ⟨_, o, e, _⟩ := p.rel.has b m; ⟨o, e⟩
    refine q _ F1 _ (a :: g) h ⟨p.step.trans st, .lst upd_same nF (p.own.keep (k g hg fun b m => (p.own.has b m).1)), p.sl.keep (k h hh fun b m => (p.rel.has b m).1), ?_⟩
    refine List.nodup_cons.mpr ⟨fun m => ?_, p.nd⟩
    rcases List.mem_append.mp m with m | m
    · obtain ⟨o, e⟩ := hg a m; rw [n] at e; cases e
    · obtain ⟨o, e⟩ := hh a m; rw [n] at e; cases e
  · cases em
end
end Eng

/-! ### Eng10 -/
/-! Eng10: what is read off the row's own syntax. -/
namespace Eng
open PySem PySem.Spec PyProof.Rows L2

/-- the forms that are met -/
def plainX : Expr → Bool
  | .Name .. => true | .Constant .. => true | .BinOp .. => true | .UnaryOp .. => true | .BoolOp .. => true | .IfExp .. => true | .Compare .. => true | .Call .. => true
  | .Subscript .. => true | .Tuple .. => true | .List .. => true | .ListComp .. => true | .Dict .. => true | .Attribute .. => true
  | _ => false
theorem star_cons {e : Expr} (h : plainX e = true) (es : List Expr) (env : Env) : starEach (e :: es) env = (false, eval e env) :: starEach es env := by
  cases e <;> first | rfl | cases h
theorem star_any {es : List Expr} (h : es.all plainX = true) (pos : Pos) (env : Env) : (backTo pos (starEach es env)).any (·.1) = false := by
  induction es with
  | nil => rfl
  | cons e es ih =>
    rw [List.all_cons, Bool.and_eq_true] at h
    rw [star_cons h.1]
    show (false || (backTo pos (starEach es env)).any (·.1)) = false
    rw [ih h.2]
    rfl
theorem star_allF {es : List Expr} (h : es.all plainX = true) (pos : Pos) (env : Env) : (backTo pos (starEach es env)).all (fun x => !x.1) = true := by
  induction es with
  | nil => rfl
  | cons e es ih =>
    rw [List.all_cons, Bool.and_eq_true] at h
    rw [star_cons h.1]
    show (true && (backTo pos (starEach es env)).all (fun x => !x.1)) = true
    rw [ih h.2]
    rfl
theorem plain_ix {e : Expr} (h : plainX e = true) : PlainIx e := by
  intro o i
  cases e <;> first | rfl | cases h
theorem no_sl {e : Expr} (h : plainX e = true) : NoSl e := by
  intro o i
  cases e <;> first | rfl | cases h
theorem plain_fold {e : Expr} (h : plainX e = true) (env : Env) (x : Value) : foldedSetIterable e env x = pure x := by
  cases e <;> first | rfl | cases h
/-- a value whose test is its truth -/
def valT : Expr → Bool
  | .Name .. => true | .Constant .. => true | .BinOp .. => true | .Call .. => true | .Subscript .. => true | .Tuple .. => true | .List .. => true | .ListComp .. => true | .Dict .. => true
  | _ => false
theorem valT_ok {e : Expr} (h : valT e = true) (env : Env) (whole : Sem Value) : isTrue e env whole = (do let v ← whole; standAt e.pos; holding [v] (truthy v)) := by
  cases e <;> first | rfl | cases h
/-- the receiver of a method, the base of a place -/
def recv : Expr → Bool
  | .Name .. => true | .Subscript .. => true
  | _ => false
theorem recv_base {o : Expr} (h : recv o = true) (m : Str) (env : Env) (w : Sem Value) : attributeBase o m env w = w := by
  cases o <;> first | rfl | cases h
def isComp : Expr → Bool
  | .ListComp .. => true | .SetComp .. => true | .DictComp .. => true
  | _ => false
theorem noComp_sw {e : Expr} (h : isComp e = false) (t : Option Expr) (l : Nat) (env : Env) : swapsWith e t l env = pure false := by
  cases e <;> first | rfl | cases h

/-- a place's name, and its indices, the first one first -/
def pathOf : Expr → Option (Str × List Expr)
  | .Name x _ => some (x, [])
  | .Subscript b ix _ => (pathOf b).map fun p => (p.1, p.2 ++ [ix])
  | _ => none
/-- which stores a, b = x, y exchanges -/
def tLine (ts : List Expr) : Nat := (ts.head?.map (·.pos.line)).getD 0
def tNames (sc : Scope) (ts : List Expr) : List Str := ts.filterMap fun
  | .Name id pos => if sc.names.lookup id == some .local && pos.line == tLine ts then some id else none
  | _ => none
def swapD (sc : Scope) (tg val : Expr) : Option (Option (List Str)) :=
  match tg, val with
  | .Tuple ts _ _, .Tuple vs _ _ =>
    if (!(ts.length == 2 || ts.length == 3) || vs.length != ts.length) = true then some none else
    if (vs.any fun | .Starred .. => true | _ => false) = true then some none else
    if ((tNames sc ts).length != ts.length || (tNames sc ts).eraseDups.length != (tNames sc ts).length) = true then some none else
    if vs.all (foldedForSure 8) = true then some none else
    if vs.all (constantsAlone 8) = true then none else some (some (tNames sc ts))
  | .Tuple .., _ => some none
  | .Name .., _ => some none
  | .Subscript .., _ => some none
  | _, _ => none
theorem swapD_ok {sc : Scope} {tg val : Expr} {r : Option (List Str)} {env : Env} (h : swapD sc tg val = some r) (hs : env.scope = sc) (hk : env.scope.kind = .function) : swappedStores [tg] val env = pure r := by
  have hb : env.blockKind = .function := by unfold Env.blockKind; rw [hk]; rfl
  have hkd : ∀ x, env.kindOf x = sc.names.lookup x := fun x => by rw [← hs]; rfl
  unfold swapD at h
  split at h
  · rename_i ts _ _ vs _ _
    unfold swappedStores
    simp only [hb, hkd]
    simp only [bne_self_eq_false, Bool.or_false, pure_bind]
    split at h
    · rename_i c; cases h; exact if_pos c
    · rename_i c
      refine Eq.trans (if_neg c) ?_
      split at h
      · rename_i c2; cases h; exact if_pos c2
      · rename_i c2
        refine Eq.trans (if_neg c2) ?_
        split at h
        · rename_i c3; cases h; exact if_pos c3
        · rename_i c3
          refine Eq.trans (if_neg c3) ?_
          split at h
          · rename_i c4; cases h; exact if_pos c4
          · rename_i c4
            refine Eq.trans (if_neg c4) ?_
            split at h
            · cases h
            · rename_i c5
              cases h
              exact if_neg c5
  · rename_i hx
    cases h
    unfold swappedStores
    split
    · rename_i e; 
      exfalso
      split at e
      · exact hx _ _ _ rfl
      · rename_i b; injection b with b _; cases b
      · cases e
    · rfl
  · cases h
    rfl
  · cases h
    rfl
  · cases h
end Eng

/-! ### Eng11 -/
/-! Eng11: the small syntax beside the row's. -/
namespace Eng
open PySem PySem.Spec PyProof.Rows L2

/-- what is known of a block's names -/
structure CK where
  N : List Str
  sc : Scope
  fn : Str → Bool
  fx : List Nat
  fns : List Str
  kws : List (Nat × Nat × List Str × List Nat)
  /-- built-ins that stand as such, names of the module math -/
  fr : List Str
  ms : List Str
def visB (sc : Scope) (x : Str) : Bool := match sc.names.lookup x with
  | some .local => true | some .cell => true | some .free => true | _ => false
def nmB (c : CK) (i : Nat) (x : Str) : Bool := decide (c.N[i]? = some x) && visB c.sc x && !(x == ("__debug__" : Str)) && !(x == ("__classdict__" : Str))
/-- a name that is stored -/
def tgB (c : CK) (i : Nat) (x : Str) : Bool := decide (c.N[i]? = some x) && !c.fx.contains i && (match c.sc.names.lookup x with | some .local => true | some .cell => c.fn x | _ => false)
def glB (c : CK) (x : Str) : Bool := decide (c.sc.names.lookup x = some .globalImplicit) && !(x == ("__debug__" : Str)) && !decide (x = ("__name__" : Str))
def frB (c : CK) (x : Str) : Bool := glB c x && decide (x ∈ c.fr)
def fnB (c : CK) (f : Nat) (x : Str) : Bool := glB c x && decide (c.fns[f]? = some x)

def opB : BOp → Operator → Bool
  | .add, .Add => true | .sub, .Sub => true | .mul, .Mult => true | .fdiv, .FloorDiv => true | .mod, .Mod => true | .pow, .Pow => true | .shl, .LShift => true | .shr, .RShift => true | .band, .BitAnd => true | .bor, .BitOr => true | .bxor, .BitXor => true
  | _, _ => false
theorem opB_ok {o : BOp} {p : Operator} (h : opB o p = true) : p = opOf o := by cases o <;> cases p <;> first | rfl | cases h
def copB : COp → CmpOp → Bool
  | .eq, .Eq => true | .ne, .NotEq => true | .lt, .Lt => true | .le, .LtE => true | .gt, .Gt => true | .ge, .GtE => true | .isin, .In => true | .notin, .NotIn => true
  | _, _ => false
theorem copB_ok {o : COp} {p : CmpOp} (h : copB o p = true) : p = copOf o := by cases o <;> cases p <;> first | rfl | cases h
def biName : Bi → Str
  | .len => "len" | .abs => "abs" | .min => "min" | .max => "max" | .sum => "sum" | .all => "all" | .any => "any" | .sorted => "sorted" | .tuple => "tuple" | .list => "list" | .int => "int" | .gcd => "gcd" | .comb => "comb"
  | .isint => "isinstance" | .isbool => "isinstance" | .istup => "isinstance" | .isstr => "isinstance" | .islist => "isinstance" | .isdict => "isinstance"
  | .revl => "list" | .zipl => "list" | .enuml => "list" | .set => "set"
def isMath : Bi → Bool
  | .gcd => true | .comb => true | _ => false
/-- the class that stands behind isinstance's value -/
def tyNm : Bi → Option Str
  | .isint => some "int" | .isbool => some "bool" | .istup => some "tuple" | .isstr => some "str" | .islist => some "list"
  | _ => none
def easyB : Bi → Bool
  | .revl => false | .zipl => false | .enuml => false | .set => false | .isdict => false | _ => true
def meName : Me → Str
  | .append => "append" | .extend => "extend" | .pop => "pop" | .popAt => "pop" | .get1 => "get" | .get2 => "get" | .insert => "insert" | .remove => "remove" | .index => "index" | .count => "count"
def noBehind (op : CmpOp) (b : Expr) : Bool := !behindInMarks op b
/-- the comprehension's block -/
def CK.inner (c : CK) (scope : Scope) : CK := { c with sc := relS scope c.sc, fn := fun x => scope.names.lookup x == some .cell, fx := [] }
def ownOk (c : CK) (scope : Scope) (own : List Nat) : Bool := (own.all fun i => decide (i < c.N.length)) && blkC c.N c.sc scope (own.map fun i => (c.N.getD i "", i))
/-- the type's name behind isinstance -/
def extB (c : CK) (f : Bi) : List Expr → Bool
  | [] => (tyNm f).isNone
  | [.Name x _] => (match tyNm f with | some y => decide (x = y) && frB c x | none => false)
  | _ => false
def isTupX : Expr → Bool
  | .Tuple .. => true | _ => false
mutual
/-- the names that a target stores -/
def tgIx : Tg → List Nat
  | .nm i => [i] | .tp ts => tgsIx ts | .sub _ _ => []
def tgsIx : Tgs → List Nat
  | .nil => [] | .cons t ts => tgIx t ++ tgsIx ts
end
def meArB : Me → Es → Bool
  | .get1, .cons _ .nil => true
  | .get2, .cons _ (.cons _ .nil) => true
  | .get1, _ => false
  | .get2, _ => false
  | .insert, _ => false | .remove, _ => false | .index, _ => false | .count, _ => false
  | _, _ => true
def vsN : Vs → Nat
  | .one _ => 1 | .two _ _ => 2
def revArg : List Expr → Option (Str × Expr)
  | [.Call (.Name y _) [e] [] _] => some (y, e)
  | _ => none
theorem revArg_ok {es : List Expr} {y : Str} {e : Expr} (h : revArg es = some (y, e)) : ∃ p2 pos2, es = [.Call (.Name y p2) [e] [] pos2] := by
  unfold revArg at h
  split at h
  · cases h; exact ⟨_, _, rfl⟩
  · cases h
/-- tests that are met -/
def tstE : E → Expr → Bool
  | .un .nt a, .UnaryOp .Not a' _ => tstE a a'
  | .and a r, .BoolOp .And (x :: y :: rest) pos => tstE a x && tstE r (.BoolOp .And (y :: rest) pos)
  | .or a r, .BoolOp .Or (x :: y :: rest) pos => tstE a x && tstE r (.BoolOp .Or (y :: rest) pos)
  | .one a, .BoolOp _ [x] _ => tstE a x
  | .cmp _ _, .Compare .. => true
  | .cmp2 _ _ _ _ _, .Compare .. => true
  | .isN _, .Compare .. => true
  | .isnN _, .Compare .. => true
  | _, a => valT a
mutual
def okE (c : CK) : E → Expr → Bool
  | .var i, .Name x _ => nmB c i x
  | .mv i, .Name x _ => nmB c i x
  | .int k, .Constant (.int j) _ _ => decide (k = j)
  | .bl b, .Constant (.bool d) _ _ => b == d
  | .non, .Constant .none _ _ => true
  | .str x, .Constant (.str y) _ _ => decide (x = y)
  | .bin o a b, .BinOp a' op b' _ => opB o op && okE c a a' && okE c b b'
  | .un o a, .UnaryOp op a' _ => (match o, op with | .neg, .USub => true | .inv, .Invert => true | .nt, .Not => true | _, _ => false) && okE c a a'
  | .and a r, .BoolOp .And (x :: y :: rest) pos => okE c a x && okE c r (.BoolOp .And (y :: rest) pos)
  | .or a r, .BoolOp .Or (x :: y :: rest) pos => okE c a x && okE c r (.BoolOp .Or (y :: rest) pos)
  | .one a, .BoolOp _ [x] _ => okE c a x
  | .cmp o vs, .Compare a [op] [b] _ => copB o op && noBehind op b && okVs c vs [a, b]
  | .cmp2 o o' a b d, .Compare a' [op, op'] [b', d'] _ => copB o op && copB o' op' && !lastMarks [op, op'] [b', d'] && okE c a a' && okE c b b' && okE c d d'
  | .isN a, .Compare a' [.Is] [.Constant .none _ _] _ => okB c a a'
  | .isnN a, .Compare a' [.IsNot] [.Constant .none _ _] _ => okB c a a'
  | .ife t a b, .IfExp t' a' b' _ => okE c t t' && tstE t t' && okE c a a' && okE c b b'
  | .call f as, .Call (.Name x _) es [] _ => fnB c f x && okAs c as es
  | .callK f np es ks perm, .Call (.Name x _) [] kws _ => fnB c f x && decide (np = 0) && decide (kws.map (·.arg) = ks.map some) && okEs c es (kws.map (·.value)) && decide ((f, np, ks, perm) ∈ c.kws)
  | .bi f vs, .Call (.Name x _) es [] _ =>
    if easyB f then decide (x = biName f) && (if isMath f then glB c x && decide (x ∈ c.ms) else frB c x) && okVs c vs (es.take (vsN vs)) && extB c f (es.drop (vsN vs))
    else (match revArg es with
      | some (y, e) => decide (f = .revl) && decide (x = "list") && frB c x && decide (y = "reversed") && frB c y && okVs c vs [e]
      | none => false)
  | .tup es, .Tuple es' _ _ => okEs c es es'
  | .lst es, .List es' _ => okEs c es es'
  | .idx b ix, .Subscript b' ix' _ => okB c b b' && okE c ix ix' && plainX ix'
  | .slc b lo hi, .Subscript b' (.Slice lo' hi' none _) _ => okB c b b' && okO c lo lo' && okO c hi hi'
  | .meth m p es, .Call (.Attribute o name apos) es' [] cpos => decide (name = meName m) && okP c p o && okEs c es es' && (apos.endLine == cpos.line) && decide (es'.length ≤ 2) && meArB m es
  | .comp elt own tg it ifs, .ListComp elt' [⟨tg', iter', ifs', 0⟩] scope _ => ownOk c scope own && plainX elt' && okE (c.inner scope) elt elt' && okT (c.inner scope) tg tg' && (tgIx tg).all (own.contains ·) && okSrc c tg' it iter' && okIfs (c.inner scope) ifs ifs' && plainX iter'
  | .dnew _, .Dict [] [] _ => true
  | .d1 tk k v, .Dict [some k'] [v'] _ => !tk && okE c k k' && okE c v v'
  | .bad, _ => true
  | _, _ => false
def okO (c : CK) : Oe → Option Expr → Bool
  | .no, none => true
  | .yes e, some a => okE c e a
  | _, _ => false
def okEs (c : CK) : Es → List Expr → Bool
  | .nil, [] => true
  | .cons e es, a :: as => okE c e a && plainX a && okEs c es as
  | _, _ => false
def okAs (c : CK) : As → List Expr → Bool
  | .nil, [] => true
  | .ref i as, .Name x _ :: es => nmB c i x && okAs c as es
  | .val e as, a :: es => okE c e a && plainX a && okAs c as es
  | _, _ => false
def okVs (c : CK) : Vs → List Expr → Bool
  | .one a, [x] => okB c a x && plainX x
  | .two a b, [x, y] => okB c a x && okB c b y && plainX x && plainX y
  | _, _ => false
def okB (c : CK) : Bs → Expr → Bool
  | .pl p, a => okP c p a
  | .ex e, a => okE c e a
/-- a place: its indices from the last one on -/
def okP (c : CK) : Pl → Expr → Bool
  | .mk i ixs, a => okPath c i ixs (pathOf a)
def okPath (c : CK) (i : Nat) : Es → Option (Str × List Expr) → Bool
  | .nil, some (x, []) => nmB c i x
  | .cons e es, some (x, a :: as) => okE c e a && plainX a && okPath c i es (some (x, as))
  | _, _ => false
def okIfs (c : CK) : Es → List Expr → Bool
  | .nil, [] => true
  | .cons e .nil, [a] => okE c e a && tstE e a
  | _, _ => false
def okT (c : CK) : Tg → Expr → Bool
  | .nm i, .Name x _ => tgB c i x
  | .tp ts, .Tuple es _ _ => okTs c ts es && es.all plainX
  | .sub p ix, .Subscript o ix' _ => okP c p o && okE c ix ix' && plainX ix'
  | _, _ => false
def okTs (c : CK) : Tgs → List Expr → Bool
  | .nil, [] => true
  | .cons t ts, a :: as => okT c t a && okTs c ts as
  | _, _ => false
def okSrc (c : CK) (tg : Expr) : Src → Expr → Bool
  | .seq e, a => okE c e a
  | .rng1 e, .Call (.Name x _) [a] [] _ => decide (x = "range") && frB c x && okE c e a && plainX a
  | .rng2 e e2, .Call (.Name x _) [a, b] [] _ => decide (x = "range") && frB c x && okE c e a && okE c e2 b && plainX a && plainX b
  | .rng3 e e2 e3, .Call (.Name x _) [a, b, d] [] _ => decide (x = "range") && frB c x && okE c e a && okE c e2 b && okE c e3 d && plainX a && plainX b && plainX d
  | .enum e, .Call (.Name x _) [a] [] _ => isTupX tg && decide (x = "enumerate") && frB c x && okE c e a && plainX a
  | .zip e e2, .Call (.Name x _) [a, b] [] _ => isTupX tg && decide (x = "zip") && frB c x && okE c e a && okE c e2 b && plainX a && plainX b
  | _, _ => false
end
end Eng

/-! ### Eng12 -/
/-! Eng12: places; calls; what stands around a block. -/
namespace Eng
open PySem PySem.Spec PyProof.Rows L2

/-- a def's promise: what the interpreter tells of it -/
def spF (K : PySem.W.Frag) (P : Prg) (k j : Nat) : Sp := fun vs H Q _ => ∃ (F : Hp) (ts : List T) (fs : List Addr) (t : T) (us : List (Option T)), Same F H ∧ Owns K F H vs ts fs ∧ fs.Nodup ∧ run P k j ts = some (t, us) ∧
  ∀ v F' H' f g, Step F H fs F' H' (f ++ g) → Own K F' H' v t f → Sls K F' H' (vs.map some) us g → (f ++ g).Nodup → Q v H'
def gK {α : Type} [Inhabited α] (np nk : Nat) (perm : List Nat) (us ws : List α) : List α := if us.length = np ∧ ws.length = nk then perm.map fun j => (us ++ ws).getD j default else []
instance : Inhabited V := ⟨.non⟩
instance : Inhabited Value := ⟨.none⟩
structure CallOk (P : Prg) (k j : Nat) (d : Fn) (kws : List (Nat × Nat × List Str × List Nat)) (X : Cx) : Prop where
  ex : ∃ (f : Addr) (fd : FuncData), X.mg d.name = some (.ref f) ∧ PySem.W.keepIn X.K (.ref f) = true ∧ FnOk X.prog X.w X.K X.mg X.base CX0 k f fd d.ps (spF X.K P k j) ∧ Binds X.K fd d.ps [] ∧
    ∀ np ks perm, (j, np, ks, perm) ∈ kws → KBinds X.K fd d.ps ks (gK np ks.length perm) (gK np ks.length perm)
structure Good (P : Prg) (k : Nat) (c : CK) (X : Cx) : Prop where
  N : X.N = c.N
  sc : X.env.scope = c.sc
  fn : X.fn = c.fn
  kind : c.sc.kind = .function
  calm : X.calm = true
  nd : c.N.Nodup
  room : Room k X.A
  free : ∀ x ∈ c.fr, X.mg x = none
  ms : ∀ f, isMath f = true → biName f ∈ c.ms → X.mg (biName f) = some (biCallee f)
  names : ∀ (j : Nat) (x : Str), c.fns[j]? = some x → ∃ d : Fn, P.fns[j]? = some d ∧ d.name = x
  fns : ∀ (j : Nat) (d : Fn), P.fns[j]? = some d → CallOk P k j d c.kws X
section
variable {P : Prg} {k : Nat} {c : CK} {X : Cx}
theorem Good.hu (G : Good P k c X) : X.A.units + 64 < cLine := G.room.units
theorem Good.hu1 (G : Good P k c X) : X.A.units + 1 < cLine := by have := G.hu; omega
theorem Good.vis (G : Good P k c X) {i : Nat} {x : Str} {pos : Pos} (h : nmB c i x = true) : PE X (.Name x pos) (tVar i) := by
  unfold nmB at h
  simp only [Bool.and_eq_true, decide_eq_true_eq, Bool.not_eq_true'] at h
  obtain ⟨⟨⟨h1, h2⟩, h3⟩, h4⟩ := h
  refine pe_var (by rw [G.N]; exact h1) ?_ h3 h4
  rw [G.sc]
  unfold visB at h2
  split at h2
  · exact .inl (by assumption)
  · exact .inr (.inl (by assumption))
  · exact .inr (.inr (by assumption))
  · cases h2
theorem Good.gl (G : Good P k c X) {x : Str} (h : glB c x = true) : Gl X x ∧ (x == ("__debug__" : Str)) = false ∧ x ≠ "__name__" := by
  unfold glB at h
  simp only [Bool.and_eq_true, decide_eq_true_eq, Bool.not_eq_true', decide_eq_false_iff_not] at h
  refine ⟨?_, h.1.2, h.2⟩
  show X.env.scope.names.lookup x = some .globalImplicit
  rw [G.sc]
  exact h.1.1
theorem Good.fr (G : Good P k c X) {x : Str} (h : frB c x = true) : Gl X x ∧ X.mg x = none ∧ (x == ("__debug__" : Str)) = false ∧ x ≠ "__name__" := by
  unfold frB at h
  simp only [Bool.and_eq_true, decide_eq_true_eq] at h
  obtain ⟨h1, h2, h3⟩ := G.gl h.1
  exact ⟨h1, G.free x h.2, h2, h3⟩
theorem Good.tg (G : Good P k c X) {i : Nat} {x : Str} {pos : Pos} (h : tgB c i x = true) : PG X (.Name x pos) (gName i) ∧ i ∉ c.fx ∧ c.N[i]? = some x := by
  unfold tgB at h
  simp only [Bool.and_eq_true, decide_eq_true_eq, Bool.not_eq_true'] at h
  obtain ⟨⟨h1, h2⟩, h3⟩ := h
  refine ⟨?_, by simpa using h2, h1⟩
  split at h3
  · rename_i e
    exact pg_name (by rw [G.N]; exact G.nd) (by rw [G.N]; exact h1) (.inl (by rw [G.sc]; exact e)) (.inr (by rw [G.sc]; exact e))
  · rename_i e
    exact pg_name (by rw [G.N]; exact G.nd) (by rw [G.N]; exact h1) (.inr (by rw [G.sc]; exact e)) (.inl (by rw [G.fn]; exact h3))
  · cases h3
end

/-! ### values that come without any change of what stands -/
def Gives (X : Cx) (e : Expr) (σ : L2.St) (H : Hp) (w : V) : Prop := ∀ Q : VK, Q w H → tW X e σ H Q
section
variable {X : Cx} {a b e : Expr} {pos : Pos} {σ : L2.St} {H : Hp}
theorem gives_bin {o : BOp} {i j k : Int} (ha : Gives X a σ H (.int i)) (hb : Gives X b σ H (.int j)) (h : binI o i j = some k) : Gives X (.BinOp a (opOf o) b pos) σ H (.int k) := fun Q q =>
  tW.of (pe_op op_w pe_w pe_w) (ha _ (hb _ (binI_ok h q)))
theorem gives_neg {i : Int} (ha : Gives X a σ H (.int i)) : Gives X (.UnaryOp .USub a pos) σ H (.int (-i)) := fun Q q =>
  tW.of (pe_un un_neg pe_w) (ha _ ⟨i, rfl, q⟩)
/-- one place further -/
theorem gives_ixL {w v : V} {p : Addr} {vs : List V} {k : Int} (hp : PlainIx b) (ha : Gives X a σ H w) (hw : w = .ref p) (hb : Gives X b σ H (.int k)) (hs : SqL X.K H p vs) (hv : atI vs k = some v) : Gives X (.Subscript a b pos) σ H v := fun Q q =>
  tW.of (pe_ix ix_seq pe_w pe_w hp) (ha _ (hb _ (.inl ⟨p, vs, k, v, hw, rfl, hs, hv, q⟩)))
theorem gives_ixT {w v : V} {p : Addr} {vs : List V} {k : Int} (hp : PlainIx b) (ha : Gives X a σ H w) (hw : w = .ref p) (hb : Gives X b σ H (.int k)) (hs : SqT X.K H p vs) (hv : atI vs k = some v) : Gives X (.Subscript a b pos) σ H v := fun Q q =>
  tW.of (pe_ix ix_seq pe_w pe_w hp) (ha _ (hb _ (.inr (.inl ⟨p, vs, k, v, hw, rfl, hs, hv, q⟩))))
theorem gives_ixD (hu : X.A.units + 1 < cLine) {w v : V} {p : Addr} {kvs : List (Key × V)} {k : Int} (hp : NoSl b) (ha : Gives X a σ H w) (hw : w = .ref p) (hb : Gives X b σ H (.int k)) (hs : H p = some (.dK kvs)) (hv : valV kvs (Sum.inl k) = some v) : Gives X (.Subscript a b pos) σ H v := fun Q q =>
  tW.of (pe_dget hu pe_w pe_w hp) (ha _ (hb _ ⟨p, v, hw, by
    have := DGet.k (k := Sum.inl k) hs
    rw [hv] at this
    exact this, q⟩))
/-- the last index of a chain stands outermost -/
theorem Chain.snoc {K : PySem.W.Frag} {H : Hp} : ∀ {ks : List Int} {k : Int} {v w : V}, Chain K H v (ks ++ [k]) w → ∃ u, Chain K H v ks u ∧ Chain K H u [k] w
  | [], k, v, w, h => ⟨v, .nil, h⟩
  | j :: ks, k, v, w, h => by
    cases h with
    | lst h1 h2 h3 => obtain ⟨u, q1, q2⟩ := Chain.snoc h3; exact ⟨u, .lst h1 h2 q1, q2⟩
    | tup h1 h2 h3 => obtain ⟨u, q1, q2⟩ := Chain.snoc h3; exact ⟨u, .tup h1 h2 q1, q2⟩
    | dct h1 h2 h3 => obtain ⟨u, q1, q2⟩ := Chain.snoc h3; exact ⟨u, .dct h1 h2 q1, q2⟩
theorem gives_one (hu : X.A.units + 1 < cLine) {u w : V} {k : Int} (hx : plainX b = true) (ha : Gives X a σ H u) (hb : Gives X b σ H (.int k)) (h : Chain X.K H u [k] w) : Gives X (.Subscript a b pos) σ H w := by
  cases h with
  | lst h1 h2 h3 => cases h3; exact gives_ixL (plain_ix hx) ha rfl hb h1 h2
  | tup h1 h2 h3 => cases h3; exact gives_ixT (plain_ix hx) ha rfl hb h1 h2
  | dct h1 h2 h3 => cases h3; exact gives_ixD hu (no_sl hx) ha rfl hb h1 h2
/-- the indices' ints -/
inductive GivesL (X : Cx) (σ : L2.St) (H : Hp) : List Expr → List Int → Prop
  | nil : GivesL X σ H [] []
  | cons {e : Expr} {es : List Expr} {k : Int} {ks : List Int} : plainX e = true → Gives X e σ H (.int k) → GivesL X σ H es ks → GivesL X σ H (e :: es) (k :: ks)
theorem GivesL.snoc : ∀ {es : List Expr} {e : Expr} {ks : List Int}, GivesL X σ H (es ++ [e]) ks → ∃ js k, ks = js ++ [k] ∧ GivesL X σ H es js ∧ plainX e = true ∧ Gives X e σ H (.int k)
  | [], e, ks, h => by
    cases h with
    | cons h1 h2 h3 => cases h3; exact ⟨[], _, rfl, .nil, h1, h2⟩
  | a :: es, e, ks, h => by
    cases h with
    | cons h1 h2 h3 =>
      obtain ⟨js, k, e1, e2, e3, e4⟩ := GivesL.snoc h3
      exact ⟨_ :: js, k, by rw [e1]; rfl, .cons h1 h2 e2, e3, e4⟩
theorem gives_path (hu : X.A.units + 1 < cLine) : ∀ {a : Expr} {x : Str} {es : List Expr} {ks : List Int} {v w : V}, pathOf a = some (x, es) → (∀ pos, Gives X (.Name x pos) σ H v) → GivesL X σ H es ks → Chain X.K H v ks w → Gives X a σ H w
  | .Name y pos, x, es, ks, v, w, h, hv, hl, hc => by
    simp only [pathOf, Option.some.injEq, Prod.mk.injEq] at h
    obtain ⟨rfl, rfl⟩ := h
    cases hl
    cases hc
    exact hv pos
  | .Subscript b ix pos, x, es, ks, v, w, h, hv, hl, hc => by
    simp only [pathOf] at h
    obtain ⟨⟨y, es'⟩, h1, h2⟩ := Option.map_eq_some_iff.mp h
    simp only [Prod.mk.injEq] at h2
    obtain ⟨rfl, rfl⟩ := h2
    obtain ⟨js, k, e1, e2, e3, e4⟩ := hl.snoc
    subst e1
    obtain ⟨u, q1, q2⟩ := hc.snoc
    exact gives_one hu e3 (gives_path hu h1 hv e2 q1) e4 q2
  | .BoolOp .., _, _, _, _, _, h, _, _, _ | .NamedExpr .., _, _, _, _, _, h, _, _, _ | .BinOp .., _, _, _, _, _, h, _, _, _ | .UnaryOp .., _, _, _, _, _, h, _, _, _ | .Lambda .., _, _, _, _, _, h, _, _, _
  | .IfExp .., _, _, _, _, _, h, _, _, _ | .Dict .., _, _, _, _, _, h, _, _, _ | .Set .., _, _, _, _, _, h, _, _, _ | .ListComp .., _, _, _, _, _, h, _, _, _ | .SetComp .., _, _, _, _, _, h, _, _, _
  | .DictComp .., _, _, _, _, _, h, _, _, _ | .GeneratorExp .., _, _, _, _, _, h, _, _, _ | .Await .., _, _, _, _, _, h, _, _, _ | .Yield .., _, _, _, _, _, h, _, _, _ | .YieldFrom .., _, _, _, _, _, h, _, _, _
  | .Compare .., _, _, _, _, _, h, _, _, _ | .Call .., _, _, _, _, _, h, _, _, _ | .FormattedValue .., _, _, _, _, _, h, _, _, _ | .JoinedStr .., _, _, _, _, _, h, _, _, _ | .Constant .., _, _, _, _, _, h, _, _, _
  | .Attribute .., _, _, _, _, _, h, _, _, _ | .Starred .., _, _, _, _, _, h, _, _, _ | .List .., _, _, _, _, _, h, _, _, _ | .Tuple .., _, _, _, _, _, h, _, _, _ | .Slice .., _, _, _, _, _, h, _, _, _ => by simp [pathOf] at h
end
section
variable {P : Prg} {k : Nat} {c : CK} {X : Cx} {F H : Hp} {σ : L2.St} {s : S} {f : List Addr}
/-- a local's data -/
theorem Rel.dat {i : Nat} {d : D} {K : PySem.W.Frag} (r : Rel K F H σ s f) (e : getS s i = some (.dat d)) : ∃ v, σ[i]? = some (some v) ∧ Rp F v d := by
  obtain ⟨v, g, r1, q1, q2, q3, q4⟩ := r.sl.take e
  exact ⟨v, q1, q2.dat_inv.2⟩
theorem gives_var (G : Good P k c X) {i : Nat} {x : Str} (h : nmB c i x = true) {v : V} (e : σ[i]? = some (some v)) (pos : Pos) : Gives X (.Name x pos) σ H v := fun Q q => tW.of (G.vis h) ⟨v, e, q⟩
theorem gives_int (G : Good P k c X) (r : Rel X.K F H σ s f) : ∀ (e : E) (a : Expr) (i : Int), okE c e a = true → pureI e s = some i → Gives X a σ H (.int i)
  | .int j, a, i, h, e => by
    cases a <;> try (simp [okE] at h; done)
    rename_i cst _ _
    cases cst <;> try (simp [okE] at h; done)
    simp only [okE, decide_eq_true_eq] at h
    simp only [pureI, Option.some.injEq] at e
    subst h e
    exact fun Q q => tW.of pe_int q
  | .var j, a, i, h, e => by
    cases a <;> try (simp [okE] at h; done)
    simp only [okE] at h
    simp only [pureI] at e
    split at e
    · rename_i e1
      cases e
      obtain ⟨v, h1, h2⟩ := r.dat e1
      cases h2
      exact gives_var G h h1 _
    · cases e
  | .bin o x y, a, i, h, e => by
    cases a <;> try (simp [okE] at h; done)
    simp only [okE, Bool.and_eq_true] at h
    simp only [pureI] at e
    obtain ⟨i1, e1, e2⟩ := Option.bind_eq_some_iff.mp e
    obtain ⟨i2, e3, e4⟩ := Option.bind_eq_some_iff.mp e2
    rw [opB_ok h.1.1]
    exact gives_bin (gives_int G r x _ i1 h.1.2 e1) (gives_int G r y _ i2 h.2 e3) e4
  | .un o x, a, i, h, e => by
    cases o with
    | neg =>
      cases a <;> try (simp [okE] at h; done)
      rename_i op _ _
      cases op <;> try (simp [okE] at h; done)
      simp only [okE, Bool.true_and] at h
      simp only [pureI] at e
      obtain ⟨i1, e1, e2⟩ := Option.map_eq_some_iff.mp e
      subst e2
      exact gives_neg (gives_int G r x _ i1 h e1)
    | inv => simp [pureI] at e
    | nt => simp [pureI] at e
  | .mv _, _, _, _, e | .bl _, _, _, _, e | .non, _, _, _, e | .str _, _, _, _, e | .and _ _, _, _, _, e | .or _ _, _, _, _, e | .one _, _, _, _, e | .cmp _ _, _, _, _, e | .cmp2 _ _ _ _ _, _, _, _, e | .isN _, _, _, _, e
  | .isnN _, _, _, _, e | .ife _ _ _, _, _, _, e | .call _ _, _, _, _, e | .callK _ _ _ _ _, _, _, _, e | .bi _ _, _, _, _, e | .tup _, _, _, _, e | .lst _, _, _, _, e | .idx _ _, _, _, _, e | .slc _ _ _, _, _, _, e
  | .meth _ _ _, _, _, _, e | .comp _ _ _ _ _, _, _, _, e | .dnew _, _, _, _, e | .d1 _ _ _, _, _, _, e | .bad, _, _, _, e => by simp [pureI] at e
theorem gives_ints (G : Good P k c X) (r : Rel X.K F H σ s f) {i : Nat} {x : Str} : ∀ (ixs : Es) (es : List Expr) (ks : List Int), okPath c i ixs (some (x, es)) = true → pureIs ixs s = some ks → GivesL X σ H es ks ∧ nmB c i x = true
  | .nil, es, ks, h, e => by
    cases es with
    | nil => simp only [pureIs, Option.some.injEq] at e; subst e; exact ⟨.nil, by simpa [okPath] using h⟩
    | cons a as => simp [okPath] at h
  | .cons ex ixs, es, ks, h, e => by
    cases es with
    | nil => simp [okPath] at h
    | cons a as =>
      simp only [okPath, Bool.and_eq_true] at h
      simp only [pureIs] at e
      obtain ⟨k1, e1, e2⟩ := Option.bind_eq_some_iff.mp e
      obtain ⟨ks1, e3, e4⟩ := Option.map_eq_some_iff.mp e2
      subst e4
      obtain ⟨q1, q2⟩ := gives_ints G r ixs as ks1 h.2 e3
      exact ⟨.cons h.1.2 (gives_int G r ex a k1 h.1.1 e1) q1, q2⟩
/-- a place: its value, what is owned there, and how it is changed -/
theorem place (G : Good P k c X) (r : Rel X.K F H σ s f) {p : Pl} {a : Expr} {t : T} (h : okP c p a = true) (e : p.at s = some t) :
    ∃ w g h', Gives X a σ H w ∧ (∀ i, p = .mk i .nil → σ[i]? = some (some w)) ∧ Own X.K F H w t g ∧ f.Perm (g ++ h') ∧
      ∀ {F' H' : Hp} {u : T} {g' : List Addr} {s' : S}, Keeps F H F' H' h' → Own X.K F' H' w u g' → p.put s u = some s' → Sls X.K F' H' σ s' (g' ++ h') := by
  obtain ⟨i, ixs⟩ := p
  simp only [okP] at h
  simp only [Pl.at] at e
  obtain ⟨ks, e1, e2⟩ := Option.bind_eq_some_iff.mp e
  obtain ⟨t0, e3, e4⟩ := Option.bind_eq_some_iff.mp e2
  cases hp : pathOf a with
  | none => rw [hp] at h; cases ixs <;> simp [okPath] at h
  | some xe =>
    obtain ⟨x, es⟩ := xe
    rw [hp] at h
    obtain ⟨q1, q2⟩ := gives_ints G r ixs es ks h e1
    obtain ⟨v, w, g, h', q3, q4, q5, q6, q7⟩ := r.at e3 e4
    refine ⟨w, g, h', gives_path G.hu1 hp (gives_var G q2 q3) q1 q4, fun j hj => ?_, q5, q6, fun {F' H' u g' s'} kp o pe => ?_⟩
    · cases hj
      simp only [pureIs, Option.some.injEq] at e1
      subst e1
      cases q4
      exact q3
    simp only [Pl.put, e1, e3, Option.bind_some] at pe
    obtain ⟨t', z1, z2⟩ := Option.map_eq_some_iff.mp pe
    subst z2
    exact q7 kp o z1
end
end Eng

/-! ### Eng13 -/
/-! Eng13: things looked at; items, slices, methods, stores. -/
namespace Eng
open PySem PySem.Spec PyProof.Rows L2
section
variable {K : PySem.W.Frag} {F F' H H' : Hp} {σ : L2.St} {s s' : S} {f g h : List Addr}
theorem Rel.step0 (r : Rel K F H σ s f) (st : Step F H [] F' H' []) : Rel K F' H' σ s f ∧ Step F H f F' H' f := by
  have k := st.keeps (g := f) (by simp) r.has
  exact ⟨⟨st.fh, r.sl.keep k, r.nd⟩, (st.frame f).mono (fun b m => by simpa using m) fun b m => by simpa using m⟩
/-- a slot's thing is owned there -/
theorem Rel.ownAt {i : Nat} {t : T} (r : Rel K F H σ s f) (e : getS s i = some t) : ∃ v g, σ[i]? = some (some v) ∧ Own K F H v t g := by
  obtain ⟨v, g, r1, q1, q2, _, _⟩ := r.sl.take e
  exact ⟨v, g, q1, q2⟩
end
section
variable {P : Prg} {k : Nat} {c : CK} {X : Cx} {F H : Hp} {σ : L2.St} {s : S} {f : List Addr}
theorem pure_ok (G : Good P k c X) (r : Rel X.K F H σ s f) {e : E} {a : Expr} {d : D} {Q : VK} (h : okE c e a = true) (em : pureD e s = some d) (q : ∀ v F' H', Step F H [] F' H' [] → Rp F' v d → Q v H') : tW X a σ H Q := by
  have old : ∀ v, Rp F v d → Q v H := fun v rp => q v F H (Step.refl r.same) rp
  have hints : (pureI e s).map PyData.int = some d → tW X a σ H Q := fun em => by
    obtain ⟨i, e1, e2⟩ := Option.map_eq_some_iff.mp em
    subst e2
    exact gives_int G r e a i h e1 _ (old _ (.int i))
  cases e with
  | var i =>
    cases a <;> try (simp [okE] at h; done)
    simp only [okE] at h
    simp only [pureD] at em
    split at em
    · rename_i e1
      cases em
      obtain ⟨v, h1, h2⟩ := r.dat e1
      exact gives_var G h h1 _ _ (old v h2)
    · cases em
  | bl b =>
    cases a <;> try (simp [okE] at h; done)
    rename_i cst _ _
    cases cst <;> try (simp [okE] at h; done)
    simp only [okE, beq_iff_eq] at h
    simp only [pureD, Option.some.injEq] at em
    subst h em
    exact tW.of pe_bl (old _ (.bl b))
  | non =>
    cases a <;> try (simp [okE] at h; done)
    rename_i cst _ _
    cases cst <;> try (simp [okE] at h; done)
    simp only [pureD, Option.some.injEq] at em
    subst em
    exact tW.of pe_non (old _ .non)
  | lst es =>
    cases es with
    | cons _ _ => exact hints em
    | nil =>
      cases a <;> try (simp [okE] at h; done)
      rename_i es' _
      cases es' with
      | cons _ _ => simp [okE, okEs] at h
      | nil =>
        simp only [pureD, Option.some.injEq] at em
        subst em
        refine tW.of (pe_lst pa_nil) ⟨Nat.zero_le _, fun p n => ?_⟩
        have st := Step.newF (o := .lst []) r.same n (f := []) (by simp)
        exact q _ _ _ st (.lst upd_same .nil)
  | _ => exact hints em
def SV1 (X : Cx) (a : Expr) (m : S → Option (T × S)) : Prop := ∀ (σ : L2.St) (s : S) (F H : Hp) (f : List Addr) (t : T) (s' : S) (Q : VK), Rel X.K F H σ s f → m s = some (t, s') →
  (∀ v F' H' h, Step F H f F' H' h → Rel X.K F' H' σ s' h → Vw X.K F' H' v t → Q v H') → tW X a σ H Q
def SV2 (X : Cx) (a b : Expr) (m : S → Option (List T × S)) : Prop := ∀ (σ : L2.St) (s : S) (F H : Hp) (f : List Addr) (ts : List T) (s' : S) (Q : V → V → Hp → Prop), Rel X.K F H σ s f → m s = some (ts, s') →
  (∀ x y v w F' H' h, ts = [x, y] → Step F H f F' H' h → Rel X.K F' H' σ s' h → Vw X.K F' H' v x → Vw X.K F' H' w y → Q v w H') → tW X a σ H fun v H1 => tW X b σ H1 fun w H2 => Q v w H2
theorem look_eq {p : Pl} {s : S} {t : T} (e : p.look s = some t) : ∃ u, p.at s = some u ∧ T.look u = some t := Option.bind_eq_some_iff.mp e
theorem at_var {p : Pl} {s : S} {t : T} (hv : p.isVar = true) (e : p.at s = some t) : ∃ i, p = .mk i .nil ∧ getS s i = some t := by
  obtain ⟨i, ixs⟩ := p
  cases ixs with
  | cons _ _ => cases hv
  | nil =>
    simp only [Pl.at, pureIs, Option.bind_some] at e
    obtain ⟨t0, e1, e2⟩ := Option.bind_eq_some_iff.mp e
    refine ⟨i, rfl, ?_⟩
    rw [e1]
    cases t0 <;> simpa [getP] using e2
theorem ok_var {i : Nat} {a : Expr} (h : okP c (.mk i .nil) a = true) : ∃ x pos, a = .Name x pos ∧ nmB c i x = true := by
  simp only [okP] at h
  cases a <;> try (simp [pathOf, okPath] at h; done)
  case Name x pos =>
    exact ⟨x, pos, rfl, by simpa [pathOf, okPath] using h⟩
theorem sv_pl (G : Good P k c X) {p : Pl} {a : Expr} (h : okP c p a = true) : SV1 X a fun s => (p.look s).map fun t => (t, s) := fun σ s F H f t s' Q r em q => by
  obtain ⟨u, e1, e2⟩ := Option.map_eq_some_iff.mp em
  cases e2
  obtain ⟨u0, e3, e4⟩ := look_eq e1
  obtain ⟨w, g, h', q1, _, q2, q3, _⟩ := place G r h e3
  exact q1 _ (q w F H f (Step.refl r.same) r (q2.vw r.same e4))
theorem sv_ex {a : Expr} {m : S → Option (T × S)} (h : SE X a m) : SV1 X a fun s => fOf (m s) := fun σ s F H f t s' Q r em q =>
  h.f σ s F H f t s' Q r em fun v F' H' g h' p => by
    obtain ⟨t0, _, e2⟩ := fOf_eq em
    have hg : g = [] := by
      cases p.own with
      | dat _ => rfl
      | dKf _ _ => rfl
      | dTf _ _ => rfl
      | scr _ => rfl
      | lst _ _ _ => cases t0 <;> simp [T.frz] at e2
      | dK _ _ _ => cases t0 <;> simp [T.frz] at e2
      | dT _ _ _ => cases t0 <;> simp [T.frz] at e2
    subst hg
    exact q v F' H' h' (by simpa using p.step) p.rel (p.own.vw0 p.step.fh)
/-- frozen things have nothing owned -/
theorem frz_nil {K : PySem.W.Frag} {F H : Hp} {v : V} {t u : T} {g : List Addr} (e : T.frz t = some u) (o : Own K F H v u g) : g = [] := by
  cases o with
  | dat _ => rfl
  | dKf _ _ => rfl
  | dTf _ _ => rfl
  | scr _ => rfl
  | lst _ _ _ => cases t <;> simp [T.frz] at e
  | dK _ _ _ => cases t <;> simp [T.frz] at e
  | dT _ _ _ => cases t <;> simp [T.frz] at e
theorem sv2_ex {a b : Expr} {m : S → Option (T × S)} {m2 : S → Option (T × S)} (ha : SE X a m) (hb : SV1 X b m2) : SV2 X a b fun s => bnd (fOf (m s)) fun x s => bnd (m2 s) fun y s => some ([x, y], s) := fun σ s F H f ts s' Q r em q => by
  obtain ⟨x, s1, e1, em⟩ := bnd_eq em
  obtain ⟨y, s2, e2, em⟩ := bnd_eq em
  cases em
  obtain ⟨t0, _, e0⟩ := fOf_eq e1
  refine ha.f σ s F H f x s1 _ r e1 fun v F1 H1 g1 h1 p => hb σ s1 F1 H1 h1 y _ _ p.rel e2 fun w F2 H2 h2 st r2 vw => ?_
  have hg := frz_nil e0 p.own
  subst hg
  have k : Keeps F1 H1 F2 H2 [] := ⟨st.ff, by simp⟩
  exact q x y v w F2 H2 h2 rfl (p.step.trans (by simpa using st)) r2 ((p.own.keep k).vw0 st.fh) vw
theorem sv2_pl (G : Good P k c X) {p p2 : Pl} {a b : Expr} (ha : okP c p a = true) (hb : okP c p2 b = true) : SV2 X a b fun s => (p.look s).bind fun x => (p2.look s).map fun y => ([x, y], s) := fun σ s F H f ts s' Q r em q => by
  obtain ⟨x, e1, em⟩ := Option.bind_eq_some_iff.mp em
  obtain ⟨y, e2, e3⟩ := Option.map_eq_some_iff.mp em
  cases e3
  refine sv_pl G ha σ s F H f x s _ r (by show (p.look s).map _ = _; rw [e1]; rfl) fun v F1 H1 h1 st1 r1 v1 => ?_
  obtain ⟨u0, e3, e4⟩ := look_eq e2
  obtain ⟨w, g, h', q1, _, q2, q3, _⟩ := place G r1 hb e3
  exact q1 _ (q x y v w F1 H1 h1 rfl st1 r1 v1 (q2.vw r1.same e4))
theorem sv2_var (G : Good P k c X) {p : Pl} {a b : Expr} {m : S → Option (T × S)} (hv : p.isVar = true) (ha : okP c p a = true) (hb : SE X b m) :
    SV2 X a b fun s => (p.at s).bind fun _ => bnd (fOf (m s)) fun y s => (p.look s).map fun x => ([x, y], s) := fun σ s F H f ts s' Q r em q => by
  obtain ⟨t1, e8, em⟩ := Option.bind_eq_some_iff.mp em
  obtain ⟨y, s1, e1, em⟩ := bnd_eq em
  obtain ⟨x, e2, e3⟩ := Option.map_eq_some_iff.mp em
  cases e3
  obtain ⟨t0, _, e0⟩ := fOf_eq e1
  obtain ⟨u0, e4, e5⟩ := look_eq e2
  obtain ⟨i, rfl, e6⟩ := at_var hv e4
  obtain ⟨_, e7, e9⟩ := at_var hv e8
  cases e7
  obtain ⟨z, pos, rfl, hz⟩ := ok_var ha
  obtain ⟨v, _, ev, _⟩ := r.ownAt e9
  refine gives_var G hz ev pos _ (hb.f σ s F H f y _ _ r e1 fun w F1 H1 g1 h1 p => ?_)
  have hg := frz_nil e0 p.own
  subst hg
  obtain ⟨v', g', ev', ow⟩ := p.rel.ownAt e6
  rw [ev] at ev'
  cases ev'
  exact q x y v w F1 H1 h1 rfl (by simpa using p.step) p.rel (ow.vw p.step.fh e5) (p.own.vw0 p.step.fh)
theorem sv2_pure (G : Good P k c X) {p : Pl} {e : E} {a b : Expr} (ha : okP c p a = true) (hb : okE c e b = true) : SV2 X a b fun s => (pureD e s).bind fun y => (p.look s).map fun x => ([x, .dat y], s) := fun σ s F H f ts s' Q r em q => by
  obtain ⟨y, e1, em⟩ := Option.bind_eq_some_iff.mp em
  obtain ⟨x, e2, e3⟩ := Option.map_eq_some_iff.mp em
  cases e3
  obtain ⟨u0, e4, e5⟩ := look_eq e2
  obtain ⟨w, g, h', q1, _, q2, q3, _⟩ := place G r ha e4
  refine q1 _ (pure_ok G r hb e1 fun v F1 H1 st rp => ?_)
  obtain ⟨r1, st1⟩ := r.step0 st
  have kk := st.keeps (g := g) (by simp) fun b m => r.has b (q3.mem_iff.mpr (List.mem_append_left _ m))
  exact q x (.dat y) w v F1 H1 f rfl st1 r1 ((q2.keep kk).vw st.fh e5) (.dat rp)

/-! ### items -/
theorem rps_atI {F : Hp} {vs : List V} {ds : List D} {k : Int} {d : D} (r : Rps F vs ds) (h : atD ds k = some d) : ∃ v, L2.atI vs k = some v ∧ Rp F v d := r.atI h
/-- by a place: its item, by what stands there -/
theorem item_pl (G : Good P k c X) (r : Rel X.K F H σ s f) {p : Pl} {w : V} {g h' : List Addr} {t : T} (ep : p.at s = some t) (o : Own X.K F H w t g) (pm : f.Perm (g ++ h'))
    (back : ∀ {F' H' : Hp} {u : T} {g' : List Addr} {s' : S}, Keeps F H F' H' h' → Own X.K F' H' w u g' → p.put s u = some s' → Sls X.K F' H' σ s' (g' ++ h'))
    {d : D} {x : V} (rx : Rp F x d) {u : T} {s' : S} (e : itemAt p d s = some (u, s')) {Q : VK} (q : ∀ v F' H' g h, Post X.K F H f σ v u s' F' H' g h → Q v H') :
    (∃ kvs, (∃ b, t = .dK b kvs) ∧ ∃ a0, w = .ref a0 ∧ ∃ v, DGet H a0 x (some v) ∧ Q v H) ∨ (∃ kvs, (∃ b, t = .dT b kvs) ∧ ∃ a0, w = .ref a0 ∧ ∃ v, DGet H a0 x (some v) ∧ Q v H) ∨ ((∀ b kvs, t ≠ .dK b kvs) ∧ (∀ b kvs, t ≠ .dT b kvs) ∧ rIx X.K w x H Q) := by
  unfold itemAt at e
  rw [ep] at e
  simp only [Option.bind_some] at e
  obtain ⟨⟨u1, t'⟩, e1, e2⟩ := Option.bind_eq_some_iff.mp e
  have nd := pm.nodup_iff.mp r.nd
  cases o with
  | dat rd =>
    refine .inr (.inr ⟨fun _ _ z => (by cases z), fun _ _ z => (by cases z), ?_⟩)
    cases rd with
    | @lst a0 xs ds ea rs =>
      cases rx with
      | int i =>
        simp only [itemT] at e1
        obtain ⟨d', h1, h2⟩ := Option.map_eq_some_iff.mp e1
        cases h2
        cases e2
        obtain ⟨v, h3, h4⟩ := rps_atI rs h1
        exact .inl ⟨a0, xs, i, v, rfl, rfl, SqL.of (r.same _ _ ea), h3, q v F H [] f (.ofRel r h4)⟩
      | _ => simp [itemT] at e1
    | @tup a0 xs ds ea rs =>
      cases rx with
      | int i =>
        simp only [itemT] at e1
        obtain ⟨d', h1, h2⟩ := Option.map_eq_some_iff.mp e1
        cases h2
        cases e2
        obtain ⟨v, h3, h4⟩ := rps_atI rs h1
        exact .inr (.inl ⟨a0, xs, i, v, rfl, rfl, SqT.of (r.same _ _ ea), h3, q v F H [] f (.ofRel r h4)⟩)
      | _ => simp [itemT] at e1
    | _ => simp [itemT] at e1
  | @lst a0 vs ts g0 ea n os =>
    refine .inr (.inr ⟨fun _ _ z => (by cases z), fun _ _ z => (by cases z), ?_⟩)
    cases rx with
    | int i =>
      simp only [itemT, ixO] at e1
      obtain ⟨j, h1, h2⟩ := Option.bind_eq_some_iff.mp e1
      obtain ⟨t1, h3, h4⟩ := Option.bind_eq_some_iff.mp h2
      obtain ⟨v1, g1, g2, q1, q2, q3, q4⟩ := os.take h3
      have hat : L2.atI vs i = some v1 := atI_of (by rw [os.len]; exact h1) q1
      refine .inl ⟨a0, vs, i, v1, rfl, rfl, SqL.of ea, hat, ?_⟩
      split at h4
      · cases h4
        cases e2
        exact q v1 F H [] f (.ofRel r q2.dat_inv.2)
      · obtain ⟨t2, h5, h6⟩ := Option.map_eq_some_iff.mp h4
        cases h6
        obtain ⟨s2, h7, h8⟩ := Option.map_eq_some_iff.mp e2
        cases h8
        -- the item is fixed in its place
        have hg1 : ∀ b ∈ g1, F b = none := fun b m => (q2.has b m).1
        have pm2 : f.Perm (g1 ++ (a0 :: (g2 ++ h'))) := by
          have z1 : (a0 :: g0).Perm (a0 :: (g1 ++ g2)) := List.Perm.cons a0 q3
          have z2 := pm.trans (List.Perm.append_right h' z1)
          refine z2.trans ?_
          rw [List.cons_append, List.append_assoc]
          exact List.perm_middle.symm
        have nd2 := pm2.nodup_iff.mp r.nd
        have kk : Keeps F H (addF F H g1) H (a0 :: (g2 ++ h')) := ⟨addF_same hg1, fun b m => ⟨rfl, by
          rw [addF_out (nd_apart nd2 b m)]
          exact (r.has b (pm2.mem_iff.mpr (List.mem_append_right _ m))).1⟩⟩
        have ow : Own X.K (addF F H g1) H v1 _ [] := q2.frz h5 (addF_same hg1) fun b m => addF_in m
        obtain ⟨f1, y1, y2⟩ := q4 (kk.sub fun b m => List.mem_cons_of_mem _ (List.mem_append_left _ m)) ow
        rw [set_get q1] at y1
        have ka := kk.at_ a0 (by simp)
        have ol : Own X.K (addF F H g1) H (.ref a0) (.lst (ts.set j _)) (a0 :: f1) := .lst ea ka.2 y1
        have sl := back (kk.sub fun b m => List.mem_cons_of_mem _ (List.mem_append_right _ m)) ol h7
        have hperm : ((a0 :: f1) ++ h').Perm (a0 :: (g2 ++ h')) := List.Perm.append_right h' (List.Perm.cons a0 (by simpa using y2))
        have sl2 := sl.perm hperm
        exact q v1 (addF F H g1) H [] (a0 :: (g2 ++ h')) ⟨(Step.fix r.same hg1).mono (fun b m => pm2.mem_iff.mpr m) fun b m => by simpa using m, ow, sl2, (List.nodup_append.mp nd2).2.1⟩
    | _ => simp [itemT] at e1
  | @dK a0 kvs' kvs ea n rk =>
    refine .inl ⟨kvs, ⟨_, rfl⟩, a0, rfl, ?_⟩
    simp only [itemT] at e1
    obtain ⟨kk, h1, h2⟩ := Option.bind_eq_some_iff.mp e1
    obtain ⟨v2, h3, h4⟩ := Option.map_eq_some_iff.mp h2
    cases h4
    cases e2
    obtain ⟨v, h5, h6⟩ := rk.val_some h3
    have gd := dget_k rx h1 ea
    rw [h5] at gd
    exact ⟨v, gd, q v F H [] f (.ofRel r h6)⟩
  | @dKf a0 kvs' kvs ea rk =>
    refine .inl ⟨kvs, ⟨_, rfl⟩, a0, rfl, ?_⟩
    simp only [itemT] at e1
    obtain ⟨kk, h1, h2⟩ := Option.bind_eq_some_iff.mp e1
    obtain ⟨v2, h3, h4⟩ := Option.map_eq_some_iff.mp h2
    cases h4
    cases e2
    obtain ⟨v, h5, h6⟩ := rk.val_some h3
    have gd := dget_k rx h1 (r.same _ _ ea)
    rw [h5] at gd
    exact ⟨v, gd, q v F H [] f (.ofRel r h6)⟩
  | @dT a0 kvs' kvs ea n rk =>
    refine .inr (.inl ⟨kvs, ⟨_, rfl⟩, a0, rfl, ?_⟩)
    cases rx with
    | @tup b0 xs ds eb rs =>
      simp only [itemT] at e1
      obtain ⟨kk, h1, h2⟩ := Option.bind_eq_some_iff.mp e1
      obtain ⟨v2, h3, h4⟩ := Option.map_eq_some_iff.mp h2
      cases h4
      cases e2
      obtain ⟨v, h5, h6⟩ := rk.val_some h3
      have gd := dget_t r.same (.tup eb rs) h1 ea
      rw [h5] at gd
      exact ⟨v, gd, q v F H [] f (.ofRel r h6)⟩
    | _ => simp [itemT] at e1
  | @dTf a0 kvs' kvs ea rk =>
    refine .inr (.inl ⟨kvs, ⟨_, rfl⟩, a0, rfl, ?_⟩)
    cases rx with
    | @tup b0 xs ds eb rs =>
      simp only [itemT] at e1
      obtain ⟨kk, h1, h2⟩ := Option.bind_eq_some_iff.mp e1
      obtain ⟨v2, h3, h4⟩ := Option.map_eq_some_iff.mp h2
      cases h4
      cases e2
      obtain ⟨v, h5, h6⟩ := rk.val_some h3
      have gd := dget_t r.same (.tup eb rs) h1 (r.same _ _ ea)
      rw [h5] at gd
      exact ⟨v, gd, q v F H [] f (.ofRel r h6)⟩
    | _ => simp [itemT] at e1
  | scr _ => simp [itemT] at e1
end
end Eng

/-! ### Eng14 -/
/-! Eng14: items, slices, methods. -/
namespace Eng
open PySem PySem.Spec PyProof.Rows L2
section
variable {P : Prg} {k : Nat} {c : CK} {X : Cx} {F H : Hp} {σ : L2.St} {s : S} {f : List Addr}
theorem pureK_ok (G : Good P k c X) (r : Rel X.K F H σ s f) {e : E} {a : Expr} {d : D} (h : okE c e a = true) (em : pureK e s = some d) : ∃ v, Gives X a σ H v ∧ Rp F v d := by
  have em2 : pureD e s = some d ∧ d ≠ .list [] := by
    unfold pureK at em
    split at em
    · cases em
    · rename_i hx
      exact ⟨em, fun z => hx (by rw [em, z])⟩
  obtain ⟨em, hne⟩ := em2
  have hints : (pureI e s).map PyData.int = some d → ∃ v, Gives X a σ H v ∧ Rp F v d := fun em => by
    obtain ⟨i, e1, e2⟩ := Option.map_eq_some_iff.mp em
    subst e2
    exact ⟨_, gives_int G r e a i h e1, .int i⟩
  cases e with
  | var i =>
    cases a <;> try (simp [okE] at h; done)
    simp only [okE] at h
    simp only [pureD] at em
    split at em
    · rename_i e1
      cases em
      obtain ⟨v, h1, h2⟩ := r.dat e1
      exact ⟨v, gives_var G h h1 _, h2⟩
    · cases em
  | bl b =>
    cases a <;> try (simp [okE] at h; done)
    rename_i cst _ _
    cases cst <;> try (simp [okE] at h; done)
    simp only [okE, beq_iff_eq] at h
    simp only [pureD, Option.some.injEq] at em
    subst h em
    exact ⟨_, fun Q q => tW.of pe_bl q, .bl b⟩
  | non =>
    cases a <;> try (simp [okE] at h; done)
    rename_i cst _ _
    cases cst <;> try (simp [okE] at h; done)
    simp only [pureD, Option.some.injEq] at em
    subst em
    exact ⟨_, fun Q q => tW.of pe_non q, .non⟩
  | lst es =>
    cases es with
    | cons _ _ => exact hints em
    | nil =>
      simp only [pureD, Option.some.injEq] at em
      exact absurd em.symm hne
  | _ => exact hints em
/-- the rule by what stands there -/
theorem item_rule (G : Good P k c X) {a b : Expr} {pos : Pos} {t : T} (hx : plainX b = true) {Q : VK} {Q0 : V → V → Hp → Prop} {H : Hp} (hd : ∀ w x H1, Q0 w x H1 → if isDct t = true then ∃ a0, w = .ref a0 ∧ ∃ v, DGet H1 a0 x (some v) ∧ Q v H1 else rIx X.K w x H1 Q)
    (h : tW X a σ H fun w H1 => tW X b σ H1 fun x H2 => Q0 w x H2) : tW X (.Subscript a b pos) σ H Q := by
  cases hb : isDct t with
  | true =>
    refine tW.of (pe_dget G.hu1 pe_w pe_w (no_sl hx)) (h.mono fun w H1 q => q.mono fun x H2 q2 => ?_)
    have := hd w x H2 q2
    rw [if_pos hb] at this
    obtain ⟨a0, e, v, g, q3⟩ := this
    exact ⟨a0, v, e, g, q3⟩
  | false =>
    refine tW.of (pe_ix ix_seq pe_w pe_w (plain_ix hx)) (h.mono fun w H1 q => q.mono fun x H2 q2 => ?_)
    have := hd w x H2 q2
    rw [hb, if_neg Bool.false_ne_true] at this
    exact this
theorem item_out {t : T} {w x : V} {H : Hp} {Q : VK} (h : (∃ kvs, (∃ b, t = .dK b kvs) ∧ ∃ a0, w = .ref a0 ∧ ∃ v, DGet H a0 x (some v) ∧ Q v H) ∨ (∃ kvs, (∃ b, t = .dT b kvs) ∧ ∃ a0, w = .ref a0 ∧ ∃ v, DGet H a0 x (some v) ∧ Q v H) ∨ ((∀ b kvs, t ≠ .dK b kvs) ∧ (∀ b kvs, t ≠ .dT b kvs) ∧ rIx X.K w x H Q)) :
    if isDct t = true then ∃ a0, w = .ref a0 ∧ ∃ v, DGet H a0 x (some v) ∧ Q v H else rIx X.K w x H Q := by
  rcases h with ⟨kvs, ⟨b, rfl⟩, h⟩ | ⟨kvs, ⟨b, rfl⟩, h⟩ | ⟨h1, h2, h⟩
  · rw [if_pos (show isDct (T.dK b kvs) = true from rfl)]; exact h
  · rw [if_pos (show isDct (T.dT b kvs) = true from rfl)]; exact h
  · have : isDct t = false := by
      cases t with
      | dK b kvs => exact absurd rfl (h1 b kvs)
      | dT b kvs => exact absurd rfl (h2 b kvs)
      | _ => rfl
    rw [this, if_neg Bool.false_ne_true]
    exact h
theorem itemAt_eq {p : Pl} {d : D} {s s' : S} {u : T} (e : itemAt p d s = some (u, s')) : ∃ t, p.at s = some t := by
  obtain ⟨t, h1, _⟩ := Option.bind_eq_some_iff.mp e
  exact ⟨t, h1⟩
theorem se_idx_var (G : Good P k c X) {p : Pl} {a b : Expr} {pos : Pos} {mi : S → Option (T × S)} (hv : p.isVar = true) (ha : okP c p a = true) (hb : SE X b mi) (hx : plainX b = true) :
    SE X (.Subscript a b pos) fun s => (p.at s).bind fun _ => bnd (dOf (mi s)) fun k s => itemAt p k s := fun σ s F H f t s' Q r em q => by
  obtain ⟨t0, e1, em⟩ := Option.bind_eq_some_iff.mp em
  obtain ⟨d, s1, e2, em⟩ := bnd_eq em
  obtain ⟨t1, e3⟩ := itemAt_eq em
  obtain ⟨i, rfl, e4⟩ := at_var hv e1
  obtain ⟨z, zp, rfl, hz⟩ := ok_var ha
  obtain ⟨v, _, ev, _⟩ := r.ownAt e4
  refine item_rule G (t := t1) (Q0 := fun w x H1 => if isDct t1 = true then ∃ a0, w = .ref a0 ∧ ∃ v, DGet H1 a0 x (some v) ∧ Q v H1 else rIx X.K w x H1 Q) hx (fun w x H1 h => h) ?_
  refine gives_var G hz ev zp _ (hb.d σ s F H f d s1 _ r e2 fun x F1 H1 h1 p1 => item_out ?_)
  obtain ⟨w, g, h', _, q2, q3, q4, q5⟩ := place G p1.rel ha e3
  have hw : w = v := by
    have := q2 i rfl
    rw [ev] at this
    cases this
    rfl
  subst hw
  exact item_pl G p1.rel e3 q3 q4 q5 p1.rp em fun v2 F2 H2 g2 h2 p2 => q v2 F2 H2 g2 h2 ⟨p1.step.trans p2.step, p2.own, p2.sl, p2.nd⟩
theorem se_idx_path (G : Good P k c X) {p : Pl} {e : E} {a b : Expr} {pos : Pos} (ha : okP c p a = true) (hb : okE c e b = true) (hx : plainX b = true) :
    SE X (.Subscript a b pos) fun s => (pureK e s).bind fun k => itemAt p k s := fun σ s F H f t s' Q r em q => by
  obtain ⟨d, e2, em⟩ := Option.bind_eq_some_iff.mp em
  obtain ⟨t1, e3⟩ := itemAt_eq em
  obtain ⟨w, g, h', q1, q2, q3, q4, q5⟩ := place G r ha e3
  obtain ⟨x, g1, rp⟩ := pureK_ok G r hb e2
  refine item_rule G (t := t1) (Q0 := fun w x H1 => if isDct t1 = true then ∃ a0, w = .ref a0 ∧ ∃ v, DGet H1 a0 x (some v) ∧ Q v H1 else rIx X.K w x H1 Q) hx (fun w x H1 h => h) (q1 _ (g1 _ (item_out ?_)))
  exact item_pl G r e3 q3 q4 q5 rp em q
/-- of any frozen thing -/
theorem item_fz {w : V} {t u : T} {d : D} {x : V} {t' : Option T} (s : Same F H) (o : Own X.K F H w t []) (rx : Rp F x d) (e : itemT t d = some (u, t')) {Q : VK} (q : ∀ v d', Rp F v d' → u = .dat d' → Q v H) :
    if isDct t = true then ∃ a0, w = .ref a0 ∧ ∃ v, DGet H a0 x (some v) ∧ Q v H else rIx X.K w x H Q := by
  cases o with
  | dat rd =>
    rw [show isDct (T.dat _) = false from rfl, if_neg Bool.false_ne_true]
    cases rd with
    | @lst a0 xs ds ea rs =>
      cases rx with
      | int i =>
        simp only [itemT] at e
        obtain ⟨d', h1, h2⟩ := Option.map_eq_some_iff.mp e
        cases h2
        obtain ⟨v, h3, h4⟩ := rps_atI rs h1
        exact .inl ⟨a0, xs, i, v, rfl, rfl, SqL.of (s _ _ ea), h3, q v _ h4 rfl⟩
      | _ => simp [itemT] at e
    | @tup a0 xs ds ea rs =>
      cases rx with
      | int i =>
        simp only [itemT] at e
        obtain ⟨d', h1, h2⟩ := Option.map_eq_some_iff.mp e
        cases h2
        obtain ⟨v, h3, h4⟩ := rps_atI rs h1
        exact .inr (.inl ⟨a0, xs, i, v, rfl, rfl, SqT.of (s _ _ ea), h3, q v _ h4 rfl⟩)
      | _ => simp [itemT] at e
    | _ => simp [itemT] at e
  | @dKf a0 kvs' kvs ea rk =>
    rw [if_pos (show isDct (T.dK true kvs) = true from rfl)]
    simp only [itemT] at e
    obtain ⟨kk, h1, h2⟩ := Option.bind_eq_some_iff.mp e
    obtain ⟨v2, h3, h4⟩ := Option.map_eq_some_iff.mp h2
    cases h4
    obtain ⟨v, h5, h6⟩ := rk.val_some h3
    have gd := dget_k rx h1 (s _ _ ea)
    rw [h5] at gd
    exact ⟨a0, rfl, v, gd, q v _ h6 rfl⟩
  | @dTf a0 kvs' kvs ea rk =>
    rw [if_pos (show isDct (T.dT true kvs) = true from rfl)]
    cases rx with
    | @tup b0 xs ds eb rs =>
      simp only [itemT] at e
      obtain ⟨kk, h1, h2⟩ := Option.bind_eq_some_iff.mp e
      obtain ⟨v2, h3, h4⟩ := Option.map_eq_some_iff.mp h2
      cases h4
      obtain ⟨v, h5, h6⟩ := rk.val_some h3
      have gd := dget_t s (.tup eb rs) h1 (s _ _ ea)
      rw [h5] at gd
      exact ⟨a0, rfl, v, gd, q v _ h6 rfl⟩
    | _ => simp [itemT] at e
  | scr _ => simp [itemT] at e
theorem se_idx_ex (G : Good P k c X) {a b : Expr} {pos : Pos} {ma mi : S → Option (T × S)} (ha : SE X a ma) (hb : SE X b mi) (hx : plainX b = true) :
    SE X (.Subscript a b pos) fun s => bnd (fOf (ma s)) fun t s => bnd (dOf (mi s)) fun k s => (itemT t k).map fun (u, _) => (u, s) := fun σ s F H f t s' Q r em q => by
  obtain ⟨t1, s1, e1, em⟩ := bnd_eq em
  obtain ⟨d, s2, e2, em⟩ := bnd_eq em
  obtain ⟨⟨u, t'⟩, e3, e4⟩ := Option.map_eq_some_iff.mp em
  cases e4
  obtain ⟨t0, _, e0⟩ := fOf_eq e1
  refine item_rule G (t := t1) (Q0 := fun w x H1 => if isDct t1 = true then ∃ a0, w = .ref a0 ∧ ∃ v, DGet H1 a0 x (some v) ∧ Q v H1 else rIx X.K w x H1 Q) hx (fun w x H1 h => h) ?_
  refine ha.f σ s F H f t1 s1 _ r e1 fun w F1 H1 g1 h1 p1 => hb.d σ s1 F1 H1 h1 d _ _ p1.rel e2 fun x F2 H2 h2 p2 => ?_
  have hg := frz_nil e0 p1.own
  subst hg
  have o2 : Own X.K F2 H2 w t1 [] := p1.own.keep ⟨p2.step.ff, by simp⟩
  refine item_fz p2.rel.same o2 p2.rp e3 fun v d' rv hu => ?_
  subst hu
  exact q v F2 H2 [] h2 (PostD.post ⟨(by simpa using p1.step : Step F H f F1 H1 h1).trans p2.step, rv, p2.rel⟩)

/-! ### slices -/
theorem sl_ok {F H : Hp} {w : V} {t u : T} {lo hi : Option Int} {Q : VK} (s : Same F H) (o : Vw X.K F H w t) (e : sliceT t lo hi = some u) (q : ∀ z F' H' g, Res X.K F H z u F' H' g → Q z H') :
    (rSlL X.K w lo hi H Q ∨ rSlA X.K w lo hi H Q) := by
  unfold sliceT at e
  split at e
  · rename_i ds
    cases e
    obtain ⟨a, vs, rfl, ea, r⟩ := o.seqL s
    refine .inl ⟨a, vs, rfl, SqL.of ea, fun p n => ?_⟩
    have : Rps F (cutV vs lo hi) (cutI ds lo hi) := by
      unfold cutV cutI
      rw [r.len]
      exact (r.drop _).take _
    exact q _ _ _ _ (Res.lst s n this)
  · rename_i ds
    cases e
    obtain ⟨a, vs, rfl, eF, ea, r⟩ := o.seqT s
    have hc : Rps F (cutV vs lo hi) (cutI ds lo hi) := by
      unfold cutV cutI
      rw [r.len]
      exact (r.drop _).take _
    refine .inr ⟨a, vs, rfl, SqT.of ea, fun hw => ?_, fun _ p n => q _ _ _ _ (Res.tup s n hc)⟩
    have hv : cutV vs lo hi = vs := by
      unfold cutV
      rw [hw.1, hw.2, List.drop_zero, Nat.sub_zero]
      exact List.take_length
    rw [hv] at hc
    exact q _ _ _ _ (Res.old s (.tup eF hc))
  · rename_i ns
    cases e
    cases o with
    | @scr a ns ea =>
      refine .inl ⟨a, _, rfl, ea, fun p n => ?_⟩
      have : cutV (ns.map V.int) lo hi = (cutI ns lo hi).map V.int := by
        unfold cutV cutI
        rw [List.length_map, List.map_take, List.map_drop]
      rw [this]
      refine q _ _ _ _ (Res.lst s n (Rps.ofInts _))
  · cases e
end
end Eng

/-! ### Eng15 -/
/-! Eng15: slices, methods. -/
namespace Eng
open PySem PySem.Spec PyProof.Rows L2
def oW (X : Cx) (e : Option Expr) : TO := fun σ H Q => ∀ (pins : List (Addr × Obj)) (s : Shared), Inv X pins σ H s → wpAny (model X.prog X.w) X.A (evalPart e X.env) (fun u s' => ∃ o H', Inv X pins σ H' s' ∧ IsPart u o ∧ Q o H') X.xe s
theorem po_w {X : Cx} {e : Option Expr} : PO X e (oW X e) := ⟨fun pins s σ H Q I h => h pins s I⟩
theorem oW.of {X : Cx} {e : Option Expr} {t : TO} {σ : L2.St} {H : Hp} {Q : Option Int → Hp → Prop} (h : PO X e t) (q : t σ H Q) : oW X e σ H Q := fun pins s I => h.run pins s σ H Q I q
/-- an optional part of a slice -/
def SO (X : Cx) (a : Option Expr) (m : S → Option (Option Int × S)) : Prop := ∀ (σ : L2.St) (s : S) (F H : Hp) (f : List Addr) (o : Option Int) (s' : S) (Q : Option Int → Hp → Prop), Rel X.K F H σ s f → m s = some (o, s') →
  (∀ F' H' h, Step F H f F' H' h → Rel X.K F' H' σ s' h → Q o H') → oW X a σ H Q
theorem asInt_eq {d : D} {k : Int} (e : asInt d = some k) : d = .int k := by
  unfold asInt at e
  split at e
  · cases e; rfl
  · cases e
section
variable {X : Cx}
theorem so_none : SO X none fun s => some (none, s) := fun σ s F H f o s' Q r em q => by
  cases em
  exact oW.of po_none (q F H f (Step.refl r.same) r)
theorem so_some {a : Expr} {m : S → Option (T × S)} (h : SE X a m) : SO X (some a) fun s => bnd (dOf (m s)) fun d s => (asInt d).map fun k => (some k, s) := fun σ s F H f o s' Q r em q => by
  obtain ⟨d, s1, e1, em⟩ := bnd_eq em
  obtain ⟨k, e2, e3⟩ := Option.map_eq_some_iff.mp em
  cases e3
  have := asInt_eq e2
  subst this
  refine oW.of (po_some pe_w) (h.d σ s F H f _ _ _ r e1 fun v F' H' h' p => ?_)
  have rp := p.rp
  cases rp
  exact ⟨k, rfl, q F' H' h' p.step p.rel⟩
end
section
variable {P : Prg} {k : Nat} {c : CK} {X : Cx} {F H : Hp} {σ : L2.St} {s : S} {f : List Addr}
theorem sl_both : SlR X (fun x lo hi H Q => rSlL X.K x lo hi H Q ∨ rSlA X.K x lo hi H Q) := SlR.or sl_list sl_tupA
theorem se_slc_ex {a : Expr} {lo hi : Option Expr} {pos p2 : Pos} {ma : S → Option (T × S)} {ml mh : S → Option (Option Int × S)} (ha : SE X a ma) (hl : SO X lo ml) (hh : SO X hi mh) :
    SE X (.Subscript a (.Slice lo hi none p2) pos) fun s => bnd (fOf (ma s)) fun t s => bnd (ml s) fun i s => bnd (mh s) fun j s => (sliceT t i j).map fun t => (t, s) := fun σ s F H f t s' Q r em q => by
  obtain ⟨t1, s1, e1, em⟩ := bnd_eq em
  obtain ⟨i, s2, e2, em⟩ := bnd_eq em
  obtain ⟨j, s3, e3, em⟩ := bnd_eq em
  obtain ⟨u, e4, e5⟩ := Option.map_eq_some_iff.mp em
  cases e5
  obtain ⟨t0, _, e0⟩ := fOf_eq e1
  refine tW.of (pe_slice sl_both pe_w po_w po_w) (ha.f σ s F H f t1 s1 _ r e1 fun w F1 H1 g1 h1 p1 => hl σ s1 F1 H1 h1 i s2 _ p1.rel e2 fun F2 H2 h2 st2 r2 => hh σ s2 F2 H2 h2 j _ _ r2 e3 fun F3 H3 h3 st3 r3 => ?_)
  have hg := frz_nil e0 p1.own
  subst hg
  have ff := st2.ff.trans st3.ff
  have o2 : Own X.K F3 H3 w t1 [] := p1.own.keep ⟨ff, by simp⟩
  refine sl_ok r3.same (o2.vw0 r3.same) e4 fun z F' H' g R => q z F' H' g h3 (R.post ((by simpa using p1.step : Step F H f F1 H1 h1).trans (st2.trans st3)) r3)
theorem se_slc_var (G : Good P k c X) {p : Pl} {a : Expr} {lo hi : Option Expr} {pos p2 : Pos} {ml mh : S → Option (Option Int × S)} (hv : p.isVar = true) (ha : okP c p a = true) (hl : SO X lo ml) (hh : SO X hi mh) :
    SE X (.Subscript a (.Slice lo hi none p2) pos) fun s => (p.at s).bind fun _ => bnd (ml s) fun i s => bnd (mh s) fun j s => (p.look s).bind fun t => (sliceT t i j).map fun t => (t, s) := fun σ s F H f t s' Q r em q => by
  obtain ⟨t0, e0, em⟩ := Option.bind_eq_some_iff.mp em
  obtain ⟨i, s2, e2, em⟩ := bnd_eq em
  obtain ⟨j, s3, e3, em⟩ := bnd_eq em
  obtain ⟨t1, e1, em⟩ := Option.bind_eq_some_iff.mp em
  obtain ⟨u, e4, e5⟩ := Option.map_eq_some_iff.mp em
  cases e5
  obtain ⟨u0, e6, e7⟩ := look_eq e1
  obtain ⟨n, rfl, e8⟩ := at_var hv e0
  obtain ⟨_, e9, e10⟩ := at_var hv e6
  cases e9
  obtain ⟨z, zp, rfl, hz⟩ := ok_var ha
  obtain ⟨v, _, ev, _⟩ := r.ownAt e8
  refine tW.of (pe_slice sl_both pe_w po_w po_w) (gives_var G hz ev zp _ (hl σ s F H f i s2 _ r e2 fun F2 H2 h2 st2 r2 => hh σ s2 F2 H2 h2 j _ _ r2 e3 fun F3 H3 h3 st3 r3 => ?_))
  obtain ⟨v', g', ev', ow⟩ := r3.ownAt e10
  rw [ev] at ev'
  cases ev'
  exact sl_ok r3.same (ow.vw r3.same e7) e4 fun z F' H' g R => q z F' H' g h3 (R.post (st2.trans st3) r3)
theorem pureO_ok (G : Good P k c X) (r : Rel X.K F H σ s f) {e : Oe} {a : Option Expr} {o : Option Int} {Q : Option Int → Hp → Prop} (h : okO c e a = true) (em : pureO e s = some o) (q : Q o H) : oW X a σ H Q := by
  cases e with
  | no =>
    cases a with
    | none => cases em; exact oW.of po_none q
    | some a => simp [okO] at h
  | yes e =>
    cases a with
    | none => simp [okO] at h
    | some a =>
      simp only [okO] at h
      obtain ⟨i, e1, e2⟩ := Option.map_eq_some_iff.mp em
      subst e2
      exact oW.of (po_some pe_w) (gives_int G r e a i h e1 _ ⟨i, rfl, q⟩)
theorem se_slc_path (G : Good P k c X) {p : Pl} {lo' hi' : Oe} {a : Expr} {lo hi : Option Expr} {pos p2 : Pos} (ha : okP c p a = true) (hl : okO c lo' lo = true) (hh : okO c hi' hi = true) :
    SE X (.Subscript a (.Slice lo hi none p2) pos) fun s => (pureO lo' s).bind fun i => (pureO hi' s).bind fun j => (p.look s).bind fun t => (sliceT t i j).map fun t => (t, s) := fun σ s F H f t s' Q r em q => by
  obtain ⟨i, e2, em⟩ := Option.bind_eq_some_iff.mp em
  obtain ⟨j, e3, em⟩ := Option.bind_eq_some_iff.mp em
  obtain ⟨t1, e1, em⟩ := Option.bind_eq_some_iff.mp em
  obtain ⟨u, e4, e5⟩ := Option.map_eq_some_iff.mp em
  cases e5
  obtain ⟨u0, e6, e7⟩ := look_eq e1
  obtain ⟨w, g, h', q1, _, q2, q3, _⟩ := place G r ha e6
  refine tW.of (pe_slice sl_both pe_w po_w po_w) (q1 _ (pureO_ok G r hl e2 (pureO_ok G r hh e3 ?_)))
  exact sl_ok r.same (q2.vw r.same e7) e4 fun z F' H' g R => q z F' H' g f (R.post (Step.refl r.same) r)

/-! ### methods -/
theorem Owns.erase {K : PySem.W.Frag} : ∀ {vs : List V} {ts : List T} {f : List Addr} {j : Nat} {t : T}, Owns K F H vs ts f → ts[j]? = some t →
    ∃ v g h, vs[j]? = some v ∧ Own K F H v t g ∧ Owns K F H (vs.eraseIdx j) (ts.eraseIdx j) h ∧ f.Perm (g ++ h)
  | _, _, _, j, t, .nil, e => by simp at e
  | _, _, _, 0, t, .cons (t := u) (f := f) (g := g) r q, e => by
    have : u = t := by simpa using e
    subst this
    exact ⟨_, f, g, rfl, r, q, List.Perm.refl _⟩
  | _, _, _, j + 1, t, .cons (f := f1) (g := g1) r q, e => by
    obtain ⟨v, g, h, h1, h2, h3, h4⟩ := Owns.erase q (show _ = _ by simpa using e)
    refine ⟨v, g, f1 ++ h, by simpa using h1, h2, .cons r h3, ?_⟩
    refine (List.Perm.append_left f1 h4).trans ?_
    rw [← List.append_assoc, ← List.append_assoc]
    exact List.Perm.append_right h List.perm_append_comm
def isLm : Me → Bool
  | .append => true | .extend => true | .pop => true | .popAt => true | _ => false
def rMe : Me → V → List V → Hp → VK → Prop
  | .append => rAppend | .extend => rExtend | .pop => rPop | .popAt => rPopAt
  | _ => fun _ _ _ _ => False

/-- behind a change of what stands at a place -/
theorem change_post {K : PySem.W.Frag} {F0 H0 F1 H1 F' H' : Hp} {f g g2 h1 h' g' gv : List Addr} {v : V} {u : T} {s' : S} (st0 : Step F0 H0 f F1 H1 (g2 ++ h1)) (nd0 : (g2 ++ h1).Nodup)
    (has : ∀ a ∈ h1, F1 a = none ∧ ∃ o, H1 a = some o ∧ Mut (some o)) (pm : h1.Perm (g ++ h')) (st : Step F1 H1 (g ++ g2) F' H' (gv ++ g')) (ow : Own K F' H' v u gv) (nd : (gv ++ g').Nodup)
    (sl : Keeps F1 H1 F' H' h' → Sls K F' H' σ s' (g' ++ h')) : Post K F0 H0 f σ v u s' F' H' gv (g' ++ h') := by
  have nd1 : (g2 ++ (g ++ h')).Nodup := (List.Perm.append_left g2 pm).nodup_iff.mp nd0
  have hh : ∀ b ∈ h', b ∉ g ++ g2 := fun b m z => by
    rcases List.mem_append.mp z with z | z
    · exact nd_apart' (List.nodup_append.mp nd1).2.1 b z m
    · exact nd_apart' nd1 b z (List.mem_append_right _ m)
  have has' : ∀ a ∈ h', F1 a = none ∧ ∃ o, H1 a = some o ∧ Mut (some o) := fun a m => has a (pm.mem_iff.mpr (List.mem_append_right _ m))
  have kk := st.keeps hh has'
  have ap := st.apart hh fun b m => let ⟨_, o, e, _⟩ := has' b m; ⟨o, e⟩
  refine ⟨st0.trans ((st.frame h').mono (fun b m => ?_) fun b m => ?_), ow, sl kk, ?_⟩
  · rcases List.mem_append.mp m with m | m
    · exact List.mem_append_right _ (pm.mem_iff.mpr (List.mem_append_right _ m))
    · rcases List.mem_append.mp m with m | m
      · exact List.mem_append_right _ (pm.mem_iff.mpr (List.mem_append_left _ m))
      · exact List.mem_append_left _ m
  · rcases List.mem_append.mp m with m | m
    · exact List.mem_append_right _ (List.mem_append_left _ m)
    · rcases List.mem_append.mp m with m | m
      · exact List.mem_append_right _ (List.mem_append_right _ m)
      · exact List.mem_append_left _ m
  · rw [← List.append_assoc]
    exact nd_app nd (List.nodup_append.mp (List.nodup_append.mp nd1).2.1).2.1 fun b m z => ap b z m
theorem mulL {l : List Addr} {K : PySem.W.Frag} {vs : List V} {ts : List T} (o : Owns K F H vs ts l) {a : Addr} {w : HO} (n : a ∉ l) : Owns K F (upd H a w) vs ts l :=
  o.keep ⟨Same.refl _, fun b m => ⟨upd_ne (fun z => n (z ▸ m)), (o.has b m).1⟩⟩
theorem mulO {l : List Addr} {K : PySem.W.Frag} {v : V} {t : T} (o : Own K F H v t l) {a : Addr} {w : HO} (n : a ∉ l) : Own K F (upd H a w) v t l :=
  o.keep ⟨Same.refl _, fun b m => ⟨upd_ne (fun z => n (z ▸ m)), (o.has b m).1⟩⟩
/-- an owned list gets other items, something comes out -/
theorem lst_step {K : PySem.W.Frag} {a : Addr} {f0 g2 f' gv : List Addr} {vs' : List V} {ts' : List T} {v : V} {u : T} (s : Same F H) (n : F a = none) (nd : (a :: f0 ++ g2).Nodup) (o : Owns K F H vs' ts' f') (ov : Own K F H v u gv)
    (hs : ∀ b ∈ gv ++ f', b ∈ f0 ++ g2) (ndf : (gv ++ f').Nodup) :
    Step F H (a :: f0 ++ g2) F (upd H a (.lst vs')) (gv ++ (a :: f')) ∧ Own K F (upd H a (.lst vs')) (.ref a) (.lst ts') (a :: f') ∧ Own K F (upd H a (.lst vs')) v u gv ∧ (gv ++ (a :: f')).Nodup := by
  rw [List.cons_append] at nd
  have na : a ∉ gv ++ f' := fun z => (List.nodup_cons.mp nd).1 (hs a z)
  refine ⟨(Step.set s (by simp) n).mono (fun b m => m) fun b m => ?_, .lst upd_same n (mulL o fun z => na (List.mem_append_right _ z)), mulO ov fun z => na (List.mem_append_left _ z), ?_⟩
  · rcases List.mem_append.mp m with m | m
    · exact List.mem_cons_of_mem _ (hs b (List.mem_append_left _ m))
    · rcases List.mem_cons.mp m with rfl | m
      · exact List.mem_cons_self
      · exact List.mem_cons_of_mem _ (hs b (List.mem_append_right _ m))
  · refine (List.perm_middle.nodup_iff).mpr (List.nodup_cons.mpr ⟨na, ndf⟩)
theorem drop_erase {α : Type} (l : List α) : l.dropLast = l.eraseIdx (l.length - 1) := by
  induction l with
  | nil => rfl
  | cons x xs ih =>
    cases xs with
    | nil => rfl
    | cons y ys =>
      rw [List.dropLast_cons₂, ih]
      simp
theorem me_list {m : Me} {w : V} {vs : List V} {t t' u : T} {ts : List T} {g g2 : List Addr} (s : Same F H) (o : Own X.K F H w t g) (os : Owns X.K F H vs ts g2) (nd : (g ++ g2).Nodup) (e : meF m t ts = some (t', u)) (hl : isLm m = true) {Q : VK}
    (q : ∀ v F' H' g' gv, Step F H (g ++ g2) F' H' (gv ++ g') → Own X.K F' H' w t' g' → Own X.K F' H' v u gv → (gv ++ g').Nodup → Q v H') : rMe m w vs H Q := by
  have out : ∀ {a : Addr} {f0 g2' f' gv : List Addr} {vs' : List V} {ts' : List T} {v : V} {u' : T}, w = .ref a → F a = none → g = a :: f0 → g2' = g2 → t' = .lst ts' → u = u' → Owns X.K F H vs' ts' f' → Own X.K F H v u' gv → (∀ b ∈ gv ++ f', b ∈ f0 ++ g2) → (gv ++ f').Nodup → Q v (upd H a (.lst vs')) := by
    intro a f0 g2' f' gv vs' ts' v u' hw n hg hg2 ht hu o1 o2 h1 h2
    subst hw hg hg2 ht hu
    obtain ⟨a1, a2, a3, a4⟩ := lst_step s n nd o1 o2 h1 h2
    exact q _ _ _ _ _ a1 a2 a3 a4
  have oN : Own X.K F H .non (.dat .none) [] := .dat .non
  unfold meF at e
  split at e
  · -- append
    split at e
    · rename_i hz
      cases e
      cases o with
      | @lst a vs0 ts0 f0 ea n os0 =>
        cases os with
        | @cons y vs1 t1 ts1 fy f1 oy ot =>
          cases ot
          rw [List.append_nil] at nd out q
          refine ⟨a, vs0, y, rfl, rfl, ea, by rw [os0.len]; exact line_lt hz, ?_⟩
          refine out (gv := []) (f' := f0 ++ fy) rfl n rfl rfl rfl rfl (by have := os0.app (.cons oy .nil); rwa [List.append_nil] at this) oN (fun b m => by simpa using m) (by
            rw [List.cons_append] at nd
            simpa using (List.nodup_cons.mp nd).2)
    · cases e
  · -- extend, owned
    split at e
    · rename_i hz
      cases e
      cases o with
      | @lst a vs0 ts0 f0 ea n os0 =>
        cases os with
        | @cons y vs1 t1 ts1 fy f1 oy ot =>
          cases ot
          rw [List.append_nil] at nd out q
          cases oy with
          | @lst b vs2 ts2 f2 eb n2 os2 =>
            refine ⟨a, b, vs0, vs2, rfl, rfl, ea, eb, by rw [os0.len, os2.len]; exact line_ok hz, ?_⟩
            refine out (gv := []) (f' := f0 ++ f2) rfl n rfl rfl rfl rfl (os0.app os2) oN (fun c m => ?_) ?_
            · simp only [List.nil_append, List.mem_append, List.mem_cons] at m ⊢
              rcases m with m | m
              · exact .inl m
              · exact .inr (.inr m)
            · rw [List.cons_append] at nd
              have := (List.nodup_cons.mp nd).2
              rw [List.nil_append]
              refine nd_app (List.nodup_append.mp this).1 (List.nodup_cons.mp (List.nodup_append.mp this).2.1).2 fun c m z => nd_apart' this c m (List.mem_cons_of_mem _ z)
    · cases e
  · -- extend by data
    split at e
    · rename_i hz
      cases e
      cases o with
      | @lst a vs0 ts0 f0 ea n os0 =>
        cases os with
        | @cons y vs1 t1 ts1 fy f1 oy ot =>
          cases ot
          rw [List.append_nil] at nd out q
          obtain ⟨hf, rp⟩ := oy.dat_inv
          subst hf
          cases rp with
          | @lst b vs2 ds eb rs =>
            refine ⟨a, b, vs0, vs2, rfl, rfl, ea, s _ _ eb, by rw [os0.len, rs.len]; exact line_ok hz, ?_⟩
            refine out (gv := []) (f' := f0 ++ []) rfl n rfl rfl rfl rfl (os0.app (Owns.ofRps rs)) oN (fun c m => by simpa using m) ?_
            rw [List.cons_append] at nd
            simpa using (List.nodup_cons.mp nd).2
    · cases e
  · -- pop
    obtain ⟨t1, h1, h2⟩ := Option.map_eq_some_iff.mp e
    cases h2
    cases o with
    | @lst a vs0 ts0 f0 ea n os0 =>
      cases os
      obtain ⟨v, gv, h, q1, q2, q3, q4⟩ := os0.erase h1
      refine ⟨a, vs0, v, rfl, rfl, ea, by rw [os0.len]; exact q1, ?_⟩
      rw [List.append_nil] at nd
      refine out (gv := gv) (f' := h) rfl n rfl rfl rfl rfl (by rw [drop_erase, drop_erase, os0.len]; exact q3) q2 (fun b m => by rw [List.append_nil]; exact q4.mem_iff.mpr m) (q4.nodup_iff.mp (List.nodup_cons.mp nd).2)
  · -- popAt
    split at e
    · cases e
    · rename_i hsm
      obtain ⟨j, e1, e2⟩ := Option.bind_eq_some_iff.mp e
      obtain ⟨t1, h1, h2⟩ := Option.map_eq_some_iff.mp e2
      cases h2
      cases o with
      | @lst a vs0 ts0 f0 ea n os0 =>
        cases os with
        | @cons y vs1 t1 ts1 fy f1 oy ot =>
          cases ot
          obtain ⟨hf, rp⟩ := oy.dat_inv
          subst hf
          cases rp
          obtain ⟨v, gv, h, q1, q2, q3, q4⟩ := os0.erase h1
          simp only [smallI, Bool.not_eq_true, Bool.not_eq_false', Bool.and_eq_true, decide_eq_true_eq] at hsm
          refine ⟨a, vs0, _, j, v, rfl, rfl, ea, by omega, by omega, by rw [os0.len]; exact (L2.ixN_seq e1).1, q1, ?_⟩
          rw [List.append_nil] at nd
          refine out (gv := gv) (f' := h) rfl n rfl rfl rfl rfl q3 q2 (fun b m => by simpa using q4.mem_iff.mpr m) (q4.nodup_iff.mp ?_)
          rw [List.append_nil] at nd
          exact (List.nodup_cons.mp nd).2
  all_goals first | cases hl; done | cases e
end
end Eng

/-! ### Eng16 -/
/-! Eng16: methods upon places. -/
namespace Eng
open PySem PySem.Spec PyProof.Rows L2
section
variable {P : Prg} {k : Nat} {c : CK} {X : Cx} {F H : Hp} {σ : L2.St} {s : S} {f : List Addr}
theorem okP_recv {p : Pl} {o : Expr} (h : okP c p o = true) : recv o = true := by
  obtain ⟨i, ixs⟩ := p
  simp only [okP] at h
  cases o <;> first | rfl | (cases ixs <;> simp [pathOf, okPath] at h)
theorem few_ok {es : List Expr} (h : es.all plainX = true) (hl : es.length ≤ 2) (cpos : Pos) : ((backTo cpos (starEach es X.env)).all (fun x => !x.1) && (backToKw cpos (keywordEach [] X.env)).all (fun x => x.1.isSome)
      && decide (es.length + ([] : List Keyword).length + (if ([] : List Keyword).isEmpty then 0 else 1) < 30)) = true := by
  rw [star_allF h]
  simp only [Bool.and_eq_true, decide_eq_true_eq]
  refine ⟨⟨trivial, rfl⟩, ?_⟩
  show es.length + 0 + 0 < 30
  omega
variable {m : Me} {o : Expr} {es : List Expr} {name : Str} {apos cpos : Pos}
theorem me_rule (hm : isLm m = true) (hn : name = meName m) (hr : recv o = true) (hpl : es.all plainX = true) (hlen : es.length ≤ 2) (hline : (apos.endLine == cpos.line) = true) {Q : VK}
    (h : tW X o σ H fun w H1 => tyV X.K "list" w H1 ∧ (es = [] → rMe m w [] H1 Q) ∧ aW X es σ H1 fun vs H2 => rMe m w vs H2 Q) : tW X (.Call (.Attribute o name apos) es [] cpos) σ H Q := by
  subst hn
  cases es with
  | nil =>
    have h' := h.mono (Q' := fun w H1 => tyV X.K "list" w H1 ∧ rMe m w [] H1 Q) fun w H1 q => ⟨q.1, q.2.1 rfl⟩
    cases m with
    | append => exact tW.of (pe_bm0 PySem.F.plainAttrs_list PySem.F.slot_list_append PySem.F.type_list_append mt_append pe_w (recv_base hr _ _ _) hline) h'
    | extend => exact tW.of (pe_bm0 PySem.F.plainAttrs_list PySem.F.slot_list_extend PySem.F.type_list_extend mt_extend pe_w (recv_base hr _ _ _) hline) h'
    | pop => exact tW.of (pe_bm0 PySem.F.plainAttrs_list PySem.F.slot_list_pop PySem.F.type_list_pop mt_pop pe_w (recv_base hr _ _ _) hline) h'
    | popAt => exact tW.of (pe_bm0 PySem.F.plainAttrs_list PySem.F.slot_list_pop PySem.F.type_list_pop mt_popAt pe_w (recv_base hr _ _ _) hline) h'
    | _ => cases hm
  | cons e es =>
    have h' := h.mono (Q' := fun w H1 => tyV X.K "list" w H1 ∧ aW X (e :: es) σ H1 fun vs H2 => rMe m w vs H2 Q) fun w H1 q => ⟨q.1, q.2.2⟩
    have h1 : plainX e = true ∧ es.all plainX = true := by simpa using hpl
    have hs := star_cons h1.1 es X.env
    have hp := star_any h1.2 cpos X.env
    have hf := few_ok (X := X) hpl hlen cpos
    cases m with
    | append => exact tW.of (pe_bm PySem.F.plainAttrs_list PySem.F.slot_list_append PySem.F.type_list_append mt_append pe_w pa_w (recv_base hr _ _ _) hf hline hs hp) h'
    | extend => exact tW.of (pe_bm PySem.F.plainAttrs_list PySem.F.slot_list_extend PySem.F.type_list_extend mt_extend pe_w pa_w (recv_base hr _ _ _) hf hline hs hp) h'
    | pop => exact tW.of (pe_bm PySem.F.plainAttrs_list PySem.F.slot_list_pop PySem.F.type_list_pop mt_pop pe_w pa_w (recv_base hr _ _ _) hf hline hs hp) h'
    | popAt => exact tW.of (pe_bm PySem.F.plainAttrs_list PySem.F.slot_list_pop PySem.F.type_list_pop mt_popAt pe_w pa_w (recv_base hr _ _ _) hf hline hs hp) h'
    | _ => cases hm
theorem methAt_eq {p : Pl} {ts : List T} {s s' : S} {u : T} (e : methAt m p ts s = some (u, s')) : ∃ t t', p.at s = some t ∧ meF m t ts = some (t', u) ∧ p.put s t' = some s' := by
  unfold methAt at e
  obtain ⟨t, h1, e⟩ := Option.bind_eq_some_iff.mp e
  obtain ⟨⟨t', u'⟩, h2, e⟩ := Option.bind_eq_some_iff.mp e
  obtain ⟨s1, h3, h4⟩ := Option.map_eq_some_iff.mp e
  cases h4
  exact ⟨t, t', h1, h2, h3⟩
theorem lstK {K : PySem.W.Frag} {w : V} {t : T} {g : List Addr} (h : isL t = true) (o : Own K F H w t g) : tyV K "list" w H := by
  cases o with
  | lst ea _ _ => exact .inl ⟨rfl, _, SqL.of ea⟩
  | _ => cases h
theorem meK_lst {t : T} (hm : isLm m = true) (h : meK m t = true) : isL t = true := by
  cases m <;> first | exact h | cases hm
/-- a list's method, at the time of the call -/
theorem me_core (G : Good P k c X) {F0 H0 F1 H1 : Hp} {g2 h1 : List Addr} {p : Pl} {vs : List V} {ts : List T} {s1 s' : S} {u : T} (hm : isLm m = true) (hp : okP c p o = true) (pl : PostL X.K F0 H0 f σ vs ts s1 F1 H1 g2 h1) (em : methAt m p ts s1 = some (u, s')) {Q : VK}
    (q : ∀ v F' H' g h, Post X.K F0 H0 f σ v u s' F' H' g h → Q v H') : ∃ w, Gives X o σ H1 w ∧ (∀ i, p = .mk i .nil → σ[i]? = some (some w)) ∧ rMe m w vs H1 Q := by
  obtain ⟨t, t', e1, e2, e3⟩ := methAt_eq em
  obtain ⟨w, g, h', q1, q2, q3, q4, q5⟩ := place G pl.rel hp e1
  have nd : (g ++ g2).Nodup := by
    have := (List.Perm.append_left g2 q4).nodup_iff.mp pl.nd
    rw [← List.append_assoc] at this
    exact List.perm_append_comm.nodup_iff.mp (List.nodup_append.mp this).1
  exact ⟨w, q1, q2, me_list pl.rel.same q3 pl.own nd e2 hm fun v F' H' g' gv st o1 o2 n2 => q v F' H' gv (g' ++ h') (change_post pl.step pl.nd pl.rel.has q4 st o2 n2 fun kk => q5 kk o1 e3)⟩
theorem pureDs_ok (G : Good P k c X) (r : Rel X.K F H σ s f) : ∀ (es : Es) (as : List Expr) (ds : List D), okEs c es as = true → pureDs es s = some ds → ∃ vs, Rps F vs ds ∧ ∀ Q : List V → Hp → Prop, Q vs H → aW X as σ H Q
  | .nil, as, ds, h, e => by
    cases as with
    | cons _ _ => simp [okEs] at h
    | nil =>
      cases e
      exact ⟨[], .nil, fun Q q => aW.of pa_nil q⟩
  | .cons e1 es, as, ds, h, e => by
    cases as with
    | nil => simp [okEs] at h
    | cons a as =>
      simp only [okEs, Bool.and_eq_true] at h
      simp only [pureDs] at e
      obtain ⟨d, h1, e⟩ := Option.bind_eq_some_iff.mp e
      obtain ⟨ds', h2, h3⟩ := Option.map_eq_some_iff.mp e
      subst h3
      obtain ⟨v, gv, rv⟩ := pureK_ok G r h.1.1 h1
      obtain ⟨vs, rs, gs⟩ := pureDs_ok G r es as ds' h.2 h2
      exact ⟨v :: vs, .cons rv rs, fun Q q => aW.of (pa_cons pe_w pa_w (star_cons h.1.2 as X.env)) (gv _ (gs _ q))⟩
theorem okEs_plain : ∀ {es : Es} {as : List Expr}, okEs c es as = true → as.all plainX = true
  | .nil, [], _ => rfl
  | .nil, _ :: _, h => by simp [okEs] at h
  | .cons _ _, [], h => by simp [okEs] at h
  | .cons e es, a :: as, h => by
    simp only [okEs, Bool.and_eq_true] at h
    rw [List.all_cons, Bool.and_eq_true]
    exact ⟨h.1.2, okEs_plain h.2⟩
theorem okEs_nil {es : Es} (h : okEs c es [] = true) : es = .nil := by
  cases es with
  | nil => rfl
  | cons _ _ => simp [okEs] at h
theorem se_meth (G : Good P k c X) {C : Nat → List T → Option (T × List (Option T))} {refs : Nat → List Bool} {p : Pl} {ees : Es} (hm : isLm m = true) (hn : name = meName m) (hp : okP c p o = true) (hes : okEs c ees es = true) (hse : SEs X es (evalEs C refs ees)) (hlen : es.length ≤ 2) (hline : (apos.endLine == cpos.line) = true) :
    SE X (.Call (.Attribute o name apos) es [] cpos) fun s => (p.at s).bind fun t => if meK m t then (if p.isVar then bnd (evalEs C refs ees s) fun ts s => methAt m p ts s else (pureDs ees s).bind fun ds => methAt m p (ds.map .dat) s) else none := fun σ s F H f t s' Q r em q => by
  obtain ⟨t0, e0, em⟩ := Option.bind_eq_some_iff.mp em
  split at em
  · rename_i hk
    have hL := meK_lst hm hk
    refine me_rule hm hn (okP_recv hp) (okEs_plain hes) hlen hline ?_
    split at em
    · rename_i hv
      obtain ⟨ts, s1, e1, em⟩ := bnd_eq em
      obtain ⟨i, rfl, e4⟩ := at_var hv e0
      obtain ⟨z, zp, rfl, hz⟩ := ok_var hp
      obtain ⟨v, g0, ev, ow⟩ := r.ownAt e4
      refine gives_var G hz ev zp _ ⟨lstK hL ow, fun hnil => ?_, hse σ s F H f ts s1 _ r e1 fun vs F1 H1 g1 h1 p1 => ?_⟩
      · subst hnil
        have := okEs_nil hes
        subst this
        cases e1
        obtain ⟨w, _, q2, q3⟩ := me_core G hm hp (PostL.nil r) em q
        have := q2 i rfl
        rw [ev] at this
        cases this
        exact q3
      · obtain ⟨w, _, q2, q3⟩ := me_core G hm hp p1 em q
        have := q2 i rfl
        rw [ev] at this
        cases this
        exact q3
    · obtain ⟨ds, e1, em⟩ := Option.bind_eq_some_iff.mp em
      obtain ⟨vs, rs, ga⟩ := pureDs_ok G r ees es ds hes e1
      have pl : PostL X.K F H f σ vs (ds.map T.dat) s F H [] f := ⟨Step.refl r.same, Owns.ofRps rs, r.sl, r.nd⟩
      obtain ⟨w0, g0, h0, q0, _, o0, _, _⟩ := place G r hp e0
      obtain ⟨t, t', e5, e6, e7⟩ := methAt_eq em
      obtain ⟨w, g, h', q1, q2, q3, q4, q5⟩ := place G r hp e0
      have e8 : t = t0 := by rw [e5] at e0; cases e0; rfl
      subst e8
      have rm : rMe m w vs H Q := me_list r.same q3 pl.own (by rw [List.append_nil]; exact (List.nodup_append.mp (q4.nodup_iff.mp r.nd)).1) e6 hm fun v F' H' g' gv st o1 o2 n2 => q v F' H' gv (g' ++ h') (change_post pl.step pl.nd pl.rel.has q4 st o2 n2 fun kk => q5 kk o1 e7)
      refine q1 _ ⟨lstK hL q3, fun hnil => ?_, ga _ rm⟩
      subst hnil
      have := okEs_nil hes
      subst this
      cases e1
      cases rs
      exact rm
  · cases em

/-! ### d.get -/
theorem isD_own {K : PySem.W.Frag} {w : V} {t : T} {g : List Addr} (s : Same F H) (h : isDct t = true) (o : Own K F H w t g) : ∃ a, w = .ref a ∧ IsD H a := by
  cases o with
  | dK ea _ _ => exact ⟨_, rfl, .inl ⟨_, .inl ea⟩⟩
  | dKf ea _ => exact ⟨_, rfl, .inl ⟨_, .inl (s _ _ ea)⟩⟩
  | dT ea _ _ => exact ⟨_, rfl, .inr ⟨_, .inl ea⟩⟩
  | dTf ea _ => exact ⟨_, rfl, .inr ⟨_, .inl (s _ _ ea)⟩⟩
  | _ => cases h
theorem KVs.opt {κ : Type} [DecidableEq κ] {kvs' : List (κ × V)} {kvs : List (κ × D)} (r : KVs F kvs' kvs) (k : κ) {v : V} {e : D} (rv : Rp F v e) : Rp F ((valV kvs' k).getD v) ((valD kvs k).getD e) := by
  have h := r.val k
  cases q : valD kvs k with
  | none => rw [q] at h; simp only at h; rw [h]; exact rv
  | some d =>
    rw [q] at h
    simp only at h
    obtain ⟨w, h1, h2⟩ := h
    rw [h1]
    exact h2
theorem get1_ok {K : PySem.W.Frag} {w : V} {t t' u : T} {d : D} {x : V} {g : List Addr} (s : Same F H) (o : Own K F H w t g) (rx : Rp F x d) (e : meF .get1 t [.dat d] = some (t', u)) : t' = t ∧ ∃ a, w = .ref a ∧ ∃ oo, DGet H a x oo ∧ ∃ d', u = .dat d' ∧ Rp F (oo.getD .non) d' := by
  cases o with
  | dK ea n rk =>
    simp only [meF] at e
    obtain ⟨kk, h1, h2⟩ := Option.map_eq_some_iff.mp e
    cases h2
    exact ⟨rfl, _, rfl, _, dget_k rx h1 ea, _, rfl, rk.opt kk .non⟩
  | dKf ea rk =>
    simp only [meF] at e
    obtain ⟨kk, h1, h2⟩ := Option.map_eq_some_iff.mp e
    cases h2
    exact ⟨rfl, _, rfl, _, dget_k rx h1 (s _ _ ea), _, rfl, rk.opt kk .non⟩
  | dT ea n rk =>
    cases rx with
    | tup eb rs =>
      simp only [meF] at e
      obtain ⟨kk, h1, h2⟩ := Option.map_eq_some_iff.mp e
      cases h2
      exact ⟨rfl, _, rfl, _, dget_t s (.tup eb rs) h1 ea, _, rfl, rk.opt kk .non⟩
    | _ => simp [meF] at e
  | dTf ea rk =>
    cases rx with
    | tup eb rs =>
      simp only [meF] at e
      obtain ⟨kk, h1, h2⟩ := Option.map_eq_some_iff.mp e
      cases h2
      exact ⟨rfl, _, rfl, _, dget_t s (.tup eb rs) h1 (s _ _ ea), _, rfl, rk.opt kk .non⟩
    | _ => simp [meF] at e
  | _ => simp [meF] at e
theorem get2_ok {K : PySem.W.Frag} {w : V} {t t' u : T} {d e0 : D} {x y : V} {g : List Addr} (s : Same F H) (o : Own K F H w t g) (rx : Rp F x d) (ry : Rp F y e0) (e : meF .get2 t [.dat d, .dat e0] = some (t', u)) : t' = t ∧ ∃ a, w = .ref a ∧ ∃ oo, DGet H a x oo ∧ ∃ d', u = .dat d' ∧ Rp F (oo.getD y) d' := by
  cases o with
  | dK ea n rk =>
    simp only [meF] at e
    obtain ⟨kk, h1, h2⟩ := Option.map_eq_some_iff.mp e
    cases h2
    exact ⟨rfl, _, rfl, _, dget_k rx h1 ea, _, rfl, rk.opt kk ry⟩
  | dKf ea rk =>
    simp only [meF] at e
    obtain ⟨kk, h1, h2⟩ := Option.map_eq_some_iff.mp e
    cases h2
    exact ⟨rfl, _, rfl, _, dget_k rx h1 (s _ _ ea), _, rfl, rk.opt kk ry⟩
  | dT ea n rk =>
    cases rx with
    | tup eb rs =>
      simp only [meF] at e
      obtain ⟨kk, h1, h2⟩ := Option.map_eq_some_iff.mp e
      cases h2
      exact ⟨rfl, _, rfl, _, dget_t s (.tup eb rs) h1 ea, _, rfl, rk.opt kk ry⟩
    | _ => simp [meF] at e
  | dTf ea rk =>
    cases rx with
    | tup eb rs =>
      simp only [meF] at e
      obtain ⟨kk, h1, h2⟩ := Option.map_eq_some_iff.mp e
      cases h2
      exact ⟨rfl, _, rfl, _, dget_t s (.tup eb rs) h1 (s _ _ ea), _, rfl, rk.opt kk ry⟩
    | _ => simp [meF] at e
  | _ => simp [meF] at e
/-- a get's answer, by what stands at the place -/
theorem get1_core {F0 H0 F1 H1 : Hp} {h1 : List Addr} {p : Pl} {d : D} {x w : V} {t : T} {g h' : List Addr} {s1 s' : S} {u : T} (st : Step F0 H0 f F1 H1 h1) (r1 : Rel X.K F1 H1 σ s1 h1) (e1 : p.at s1 = some t) (q3 : Own X.K F1 H1 w t g) (q4 : h1.Perm (g ++ h'))
    (q5 : ∀ {F' H' : Hp} {u : T} {g' : List Addr} {s' : S}, Keeps F1 H1 F' H' h' → Own X.K F' H' w u g' → p.put s1 u = some s' → Sls X.K F' H' σ s' (g' ++ h')) (rx : Rp F1 x d) (em : methAt .get1 p [.dat d] s1 = some (u, s')) {Q : VK}
    (q : ∀ v F' H' g h, Post X.K F0 H0 f σ v u s' F' H' g h → Q v H') : ∃ a, w = .ref a ∧ ∃ oo, DGet H1 a x oo ∧ Q (oo.getD .non) H1 := by
  obtain ⟨t1, t', e2, e3, e4⟩ := methAt_eq em
  rw [e1] at e2
  cases e2
  obtain ⟨rfl, a, rfl, oo, z1, d', rfl, z2⟩ := get1_ok r1.same q3 rx e3
  refine ⟨a, rfl, oo, z1, q _ F1 H1 [] (g ++ h') (change_post (g2 := []) (by simpa using st) (by simpa using r1.nd) r1.has q4 ?_ (.dat z2) ?_ fun kk => q5 kk q3 e4)⟩
  · simpa using Step.refl (f := g) r1.same
  · simpa using (List.nodup_append.mp (q4.nodup_iff.mp r1.nd)).1
theorem get2_core {F0 H0 F1 H1 : Hp} {h1 : List Addr} {p : Pl} {d e0 : D} {x y w : V} {t : T} {g h' : List Addr} {s1 s' : S} {u : T} (st : Step F0 H0 f F1 H1 h1) (r1 : Rel X.K F1 H1 σ s1 h1) (e1 : p.at s1 = some t) (q3 : Own X.K F1 H1 w t g) (q4 : h1.Perm (g ++ h'))
    (q5 : ∀ {F' H' : Hp} {u : T} {g' : List Addr} {s' : S}, Keeps F1 H1 F' H' h' → Own X.K F' H' w u g' → p.put s1 u = some s' → Sls X.K F' H' σ s' (g' ++ h')) (rx : Rp F1 x d) (ry : Rp F1 y e0) (em : methAt .get2 p [.dat d, .dat e0] s1 = some (u, s')) {Q : VK}
    (q : ∀ v F' H' g h, Post X.K F0 H0 f σ v u s' F' H' g h → Q v H') : ∃ a, w = .ref a ∧ ∃ oo, DGet H1 a x oo ∧ Q (oo.getD y) H1 := by
  obtain ⟨t1, t', e2, e3, e4⟩ := methAt_eq em
  rw [e1] at e2
  cases e2
  obtain ⟨rfl, a, rfl, oo, z1, d', rfl, z2⟩ := get2_ok r1.same q3 rx ry e3
  refine ⟨a, rfl, oo, z1, q _ F1 H1 [] (g ++ h') (change_post (g2 := []) (by simpa using st) (by simpa using r1.nd) r1.has q4 ?_ (.dat z2) ?_ fun kk => q5 kk q3 e4)⟩
  · simpa using Step.refl (f := g) r1.same
  · simpa using (List.nodup_append.mp (q4.nodup_iff.mp r1.nd)).1
theorem m1_ok (hr : recv o = true) {e : Expr} (hp : plainX e = true) (hline : (apos.endLine == cpos.line) = true) : M1 X o name apos e cpos :=
  ⟨recv_base hr _ _ _, few_ok (es := [e]) (by simpa using hp) (by simp) cpos, hline, by rw [star_cons hp]; rfl⟩
theorem m2_ok (hr : recv o = true) {e e2 : Expr} (hp : plainX e = true) (hp2 : plainX e2 = true) (hline : (apos.endLine == cpos.line) = true) : M2 X o name apos e e2 cpos :=
  ⟨recv_base hr _ _ _, few_ok (es := [e, e2]) (by simp [hp, hp2]) (by simp) cpos, hline, by rw [star_cons hp, star_cons hp2]; rfl⟩
theorem get1_dat {t t' u x : T} (e : meF .get1 t [x] = some (t', u)) : ∃ d, x = .dat d := by
  cases x with
  | dat d => exact ⟨d, rfl⟩
  | _ => cases t <;> simp [meF] at e
theorem get2_dat {t t' u x y : T} (e : meF .get2 t [x, y] = some (t', u)) : ∃ d e', x = .dat d ∧ y = .dat e' := by
  cases x with
  | dat d =>
    cases y with
    | dat e' => exact ⟨d, e', rfl, rfl⟩
    | _ => cases t <;> simp [meF] at e
  | _ => cases t <;> simp [meF] at e
theorem se_get1 (G : Good P k c X) {C : Nat → List T → Option (T × List (Option T))} {refs : Nat → List Bool} {p : Pl} {e1 : E} {a1 : Expr} (hn : name = meName .get1) (hp : okP c p o = true) (h1 : okE c e1 a1 = true) (hx : plainX a1 = true) (hse : SE X a1 (evalE C refs e1)) (hline : (apos.endLine == cpos.line) = true) :
    SE X (.Call (.Attribute o name apos) [a1] [] cpos) fun s => (p.at s).bind fun t => if meK .get1 t then (if p.isVar then bnd (evalEs C refs (.cons e1 .nil) s) fun ts s => methAt .get1 p ts s else (pureDs (.cons e1 .nil) s).bind fun ds => methAt .get1 p (ds.map .dat) s) else none := fun σ s F H f t s' Q r em q => by
  subst hn
  obtain ⟨t0, e0, em⟩ := Option.bind_eq_some_iff.mp em
  split at em
  · rename_i hk
    have hk : isDct t0 = true := hk
    refine tW.of (pe_dget1 G.hu1 pe_w pe_w (m1_ok (okP_recv hp) hx hline)) ?_
    split at em
    · rename_i hv
      obtain ⟨ts, s1, e2, em⟩ := bnd_eq em
      simp only [evalEs] at e2
      obtain ⟨x, s2, e3, e2⟩ := bnd_eq e2
      cases e2
      obtain ⟨tt, tt', m1, m2, m3⟩ := methAt_eq em
      obtain ⟨d, rfl⟩ := get1_dat m2
      obtain ⟨i, rfl, e4⟩ := at_var hv e0
      obtain ⟨z, zp, rfl, hz⟩ := ok_var hp
      obtain ⟨v, g0, ev, ow⟩ := r.ownAt e4
      obtain ⟨a, rfl, isd⟩ := isD_own r.same hk ow
      refine gives_var G hz ev zp _ ⟨a, rfl, isd, hse σ s F H f _ _ _ r e3 fun x F1 H1 g1 h1 p1 => ?_⟩
      have p2 := p1.dat
      obtain ⟨w, g, h', _, q2, q3, q4, q5⟩ := place G p2.rel hp m1
      have := q2 i rfl
      rw [ev] at this
      cases this
      obtain ⟨a', hw, oo, z1, z2⟩ := get1_core p2.step p2.rel m1 q3 q4 q5 p2.rp em q
      cases hw
      exact ⟨oo, z1, z2⟩
    · obtain ⟨ds, e2, em⟩ := Option.bind_eq_some_iff.mp em
      simp only [pureDs] at e2
      obtain ⟨d, e3, e2⟩ := Option.bind_eq_some_iff.mp e2
      simp only [Option.map_some, Option.some.injEq] at e2
      subst e2
      obtain ⟨v, gv, rv⟩ := pureK_ok G r h1 e3
      obtain ⟨w, g, h', z1, _, z3, z4, z5⟩ := place G r hp e0
      obtain ⟨a, rfl, isd⟩ := isD_own r.same hk z3
      obtain ⟨a', hw, oo, y1, y2⟩ := get1_core (Step.refl r.same) r e0 z3 z4 z5 rv em q
      cases hw
      exact z1 _ ⟨a, rfl, isd, gv _ ⟨oo, y1, y2⟩⟩
  · cases em
theorem se_get2 (G : Good P k c X) {C : Nat → List T → Option (T × List (Option T))} {refs : Nat → List Bool} {p : Pl} {e1 e2 : E} {a1 a2 : Expr} (hn : name = meName .get2) (hp : okP c p o = true) (h1 : okE c e1 a1 = true) (h2 : okE c e2 a2 = true) (hx : plainX a1 = true) (hx2 : plainX a2 = true) (hse : SE X a1 (evalE C refs e1)) (hse2 : SE X a2 (evalE C refs e2)) (hline : (apos.endLine == cpos.line) = true) :
    SE X (.Call (.Attribute o name apos) [a1, a2] [] cpos) fun s => (p.at s).bind fun t => if meK .get2 t then (if p.isVar then bnd (evalEs C refs (.cons e1 (.cons e2 .nil)) s) fun ts s => methAt .get2 p ts s else (pureDs (.cons e1 (.cons e2 .nil)) s).bind fun ds => methAt .get2 p (ds.map .dat) s) else none := fun σ s F H f t s' Q r em q => by
  subst hn
  obtain ⟨t0, e0, em⟩ := Option.bind_eq_some_iff.mp em
  split at em
  · rename_i hk
    have hk : isDct t0 = true := hk
    refine tW.of (pe_dget2 G.hu1 pe_w pe_w pe_w (m2_ok (okP_recv hp) hx hx2 hline)) ?_
    split at em
    · rename_i hv
      obtain ⟨ts, s1, e9, em⟩ := bnd_eq em
      simp only [evalEs] at e9
      obtain ⟨x, s2, e3, e9⟩ := bnd_eq e9
      obtain ⟨xs, s3, e7, e9⟩ := bnd_eq e9
      cases e9
      obtain ⟨y, s4, e8, e7⟩ := bnd_eq e7
      cases e7
      obtain ⟨tt, tt', m1, m2, m3⟩ := methAt_eq em
      obtain ⟨d, d2, rfl, rfl⟩ := get2_dat m2
      obtain ⟨i, rfl, e4⟩ := at_var hv e0
      obtain ⟨z, zp, rfl, hz⟩ := ok_var hp
      obtain ⟨v, g0, ev, ow⟩ := r.ownAt e4
      obtain ⟨a, rfl, isd⟩ := isD_own r.same hk ow
      refine gives_var G hz ev zp _ ⟨a, rfl, isd, hse σ s F H f _ _ _ r e3 fun x F0 H0 g0 h0 p0 => hse2 σ _ F0 H0 h0 _ _ _ p0.dat.rel e8 fun y F1 H1 g1 h1 p1 => ?_⟩
      have p2 := p1.dat
      obtain ⟨p3, rx⟩ := p0.dat.onD p2
      obtain ⟨w, g, h', _, q2, q3, q4, q5⟩ := place G p2.rel hp m1
      have := q2 i rfl
      rw [ev] at this
      cases this
      obtain ⟨a', hw, oo, z1, z2⟩ := get2_core p3.step p3.rel m1 q3 q4 q5 rx p3.rp em q
      cases hw
      exact ⟨oo, z1, z2⟩
    · obtain ⟨ds, e9, em⟩ := Option.bind_eq_some_iff.mp em
      simp only [pureDs] at e9
      obtain ⟨d, e3, e9⟩ := Option.bind_eq_some_iff.mp e9
      obtain ⟨ds2, e9, e10⟩ := Option.map_eq_some_iff.mp e9
      obtain ⟨d2, e11, e9⟩ := Option.bind_eq_some_iff.mp e9
      simp only [Option.map_some, Option.some.injEq] at e9
      subst e9 e10
      obtain ⟨v, gv, rv⟩ := pureK_ok G r h1 e3
      obtain ⟨v2, gv2, rv2⟩ := pureK_ok G r h2 e11
      obtain ⟨w, g, h', z1, _, z3, z4, z5⟩ := place G r hp e0
      obtain ⟨a, rfl, isd⟩ := isD_own r.same hk z3
      obtain ⟨a', hw, oo, y1, y2⟩ := get2_core (Step.refl r.same) r e0 z3 z4 z5 rv rv2 em q
      cases hw
      exact z1 _ ⟨a, rfl, isd, gv _ (gv2 _ ⟨oo, y1, y2⟩)⟩
  · cases em
end
end Eng

/-! ### Eng17 -/
/-! Eng17: built-ins, comparisons, dict displays. -/
namespace Eng
open PySem PySem.Spec PyProof.Rows L2
section
variable {P : Prg} {k : Nat} {c : CK} {X : Cx} {F H : Hp} {σ : L2.St} {s : S} {f : List Addr}

theorem boot_bi {f : Bi} (h : easyB f = true) (h2 : isMath f = false) : bootBuiltins (biName f) = some (biCallee f) := by
  cases f <;> first | (cases h; done) | (cases h2; done) | (with_unfolding_all rfl)
theorem boot_ty {f : Bi} {y : Str} {n : String} (h : tyNm f = some y) (h2 : biType f = some n) : bootBuiltins y = some (.type n) := by
  cases f <;> first | (cases h; cases h2; with_unfolding_all rfl) | (cases h; done)
theorem ty_both {f : Bi} : (tyNm f = none ∧ biType f = none) ∨ ∃ y n, tyNm f = some y ∧ biType f = some n := by
  cases f <;> first | exact .inl ⟨rfl, rfl⟩ | exact .inr ⟨_, _, rfl, rfl⟩
/-- what stands behind isinstance's value -/
theorem ext_ok (G : Good P k c X) {f : Bi} {r : List Expr} (h : extB c f r = true) : r.all plainX = true ∧ ∀ (Q : List V → Hp → Prop), Q (extra f) H → aW X r σ H Q := by
  rcases ty_both (f := f) with ⟨e1, e2⟩ | ⟨y, n, e1, e2⟩
  · have hr : r = [] := by
      unfold extB at h
      split at h
      · rfl
      · rw [e1] at h; cases h
      · cases h
    subst hr
    refine ⟨rfl, fun Q q => aW.of pa_nil ?_⟩
    have : extra f = [] := by unfold extra; rw [e2]
    rw [this] at q
    exact q
  · unfold extB at h
    split at h
    · rw [e1] at h; cases h
    · rename_i x pos
      rw [e1] at h
      simp only [Bool.and_eq_true, decide_eq_true_eq] at h
      obtain ⟨rfl, h2⟩ := h
      obtain ⟨g1, g2, g3, g4⟩ := G.fr h2
      refine ⟨rfl, fun Q q => aW.of (pa_cons (pe_bltn (v := .ty n) g1 g2 (boot_ty e1 e2) rfl g4 g3) pa_nil) ?_⟩
      have : extra f = [.ty n] := by unfold extra; rw [e2]
      rw [this] at q
      exact q
    · cases h
theorem bi_rule (G : Good P k c X) {f : Bi} {x : Str} {e : Expr} {es : List Expr} {p pos : Pos} (hx : x = biName f) (he : easyB f = true) (hg : (if isMath f then glB c x && decide (x ∈ c.ms) else frB c x) = true) (hpl : (e :: es).all plainX = true) {Q : VK}
    (h : aW X (e :: es) σ H fun vs H1 => cW X (biCallee f) vs H1 Q) : tW X (.Call (.Name x p) (e :: es) [] pos) σ H Q := by
  have h1 : plainX e = true ∧ es.all plainX = true := by simpa using hpl
  have hs := star_cons h1.1 es X.env
  have hp := star_any h1.2 pos X.env
  subst hx
  cases hm : isMath f with
  | true =>
    rw [hm, if_pos rfl, Bool.and_eq_true] at hg
    obtain ⟨g1, g2, g3⟩ := G.gl hg.1
    have := G.ms f hm (by simpa using hg.2)
    cases f <;> first | (cases hm; done) | exact tW.of (pe_callBfun cr_w g1 this pa_w g2 hs hp) h
  | false =>
    rw [hm, if_neg Bool.false_ne_true] at hg
    obtain ⟨g1, g2, g3, g4⟩ := G.fr hg
    have b := boot_bi he hm
    cases f <;> first | (cases hm; done) | (cases he; done) | exact tW.of (pe_callB cr_w g1 g2 b pa_w g4 g3 hs hp) h | exact tW.of (pe_callTy cr_w g1 g2 b pa_w g4 g3 hs hp) h
/-- a value of a built-in, by the arguments' looks -/
theorem bi_val (hc : X.calm = true) {f : Bi} {vs : List V} {ts : List T} {u : T} {Q : VK} (he : easyB f = true) (h : biF f ts = some u) (s : Same F H) (rv : Vws X.K F H vs ts)
    (q : ∀ z F' H' g, Res X.K F H z u F' H' g → Q z H') : cW X (biCallee f) (vs ++ extra f) H Q := by
  cases hh : biHard f ts with
  | false => exact biF_ok hc h hh s rv q
  | true =>
    unfold biHard at hh
    split at hh
    · obtain ⟨v, rfl, o⟩ := rv.one
      exact sorted_dict hc (.inr ⟨_, _, rfl⟩) h s o q
    · obtain ⟨v, rfl, o⟩ := rv.one
      exact sorted_dict hc (.inl ⟨_, _, rfl⟩) h s o q
    all_goals first | cases he; done | cases hh
theorem se_bi1 (G : Good P k c X) {f : Bi} {x : Str} {e : Expr} {r : List Expr} {p pos : Pos} {m : S → Option (T × S)} (hx : x = biName f) (he : easyB f = true) (hg : (if isMath f then glB c x && decide (x ∈ c.ms) else frB c x) = true) (hext : extB c f r = true) (hpe : plainX e = true)
    (hse : SV1 X e m) : SE X (.Call (.Name x p) (e :: r) [] pos) fun s => bnd (bnd (m s) fun t s => some ([t], s)) fun ts s => (biF f ts).map fun t => (t, s) := fun σ s F H f0 t s' Q r0 em q => by
  obtain ⟨ts, s1, e1, em⟩ := bnd_eq em
  obtain ⟨t1, s2, e2, e1⟩ := bnd_eq e1
  cases e1
  obtain ⟨u, e3, e4⟩ := Option.map_eq_some_iff.mp em
  cases e4
  have hr := (ext_ok (σ := σ) (H := H) G hext).1
  refine bi_rule G hx he hg (by rw [List.all_cons, hpe, hr]; rfl) (aW.of (pa_cons pe_w pa_w (star_cons hpe r X.env)) (hse σ s F H f0 t1 _ _ r0 e2 fun v F1 H1 h1 st r1 vw => (ext_ok G hext).2 _ ?_))
  exact bi_val G.calm (vs := [v]) he e3 r1.same (.cons vw .nil) fun z F' H' g R => q z F' H' g h1 (R.post st r1)
theorem se_bi2 (G : Good P k c X) {f : Bi} {x : Str} {e e2 : Expr} {r : List Expr} {p pos : Pos} {m : S → Option (List T × S)} (hx : x = biName f) (he : easyB f = true) (hg : (if isMath f then glB c x && decide (x ∈ c.ms) else frB c x) = true) (hext : extB c f r = true) (hpe : plainX e = true) (hpe2 : plainX e2 = true)
    (hm : ∀ s ts s', m s = some (ts, s') → ts.length = 2) (hse : SV2 X e e2 m) : SE X (.Call (.Name x p) (e :: e2 :: r) [] pos) fun s => bnd (m s) fun ts s => (biF f ts).map fun t => (t, s) := fun σ s F H f0 t s' Q r0 em q => by
  obtain ⟨ts, s1, e1, em⟩ := bnd_eq em
  obtain ⟨u, e3, e4⟩ := Option.map_eq_some_iff.mp em
  cases e4
  have hr := (ext_ok (σ := σ) (H := H) G hext).1
  refine bi_rule G hx he hg (by rw [List.all_cons, List.all_cons, hpe, hpe2, hr]; rfl) (aW.of (pa_cons pe_w (pa_cons pe_w pa_w (star_cons hpe2 r X.env)) (star_cons hpe _ X.env)) ?_)
  refine hse σ s F H f0 ts _ _ r0 e1 fun x y v w F1 H1 h1 ht st r1 vx vy => (ext_ok G hext).2 _ ?_
  subst ht
  exact bi_val G.calm (vs := [v, w]) he e3 r1.same (.cons vx (.cons vy .nil)) fun z F' H' g R => q z F' H' g h1 (R.post st r1)
theorem rev_inv {t u : T} (h : biF .revl [t] = some u) : ∃ xs, t = .dat (.list xs) ∧ u = freshL xs.reverse := by
  cases t with
  | dat d =>
    cases d with
    | list xs => cases h; exact ⟨xs, rfl, rfl⟩
    | _ => simp [biF] at h
  | _ => simp [biF] at h
theorem se_rev (G : Good P k c X) {x y : Str} {e : Expr} {p p2 pos pos2 : Pos} {m : S → Option (T × S)} (hx : x = "list") (hg : frB c x = true) (hy : y = "reversed") (hg2 : frB c y = true) (hpe : plainX e = true) (hse : SV1 X e m) :
    SE X (.Call (.Name x p) [.Call (.Name y p2) [e] [] pos2] [] pos) fun s => bnd (bnd (m s) fun t s => some ([t], s)) fun ts s => (biF .revl ts).map fun t => (t, s) := fun σ s F H f0 t s' Q r0 em q => by
  subst hx hy
  obtain ⟨ts, s1, e1, em⟩ := bnd_eq em
  obtain ⟨t1, s2, e2, e1⟩ := bnd_eq e1
  cases e1
  obtain ⟨u, e3, e4⟩ := Option.map_eq_some_iff.mp em
  cases e4
  obtain ⟨g1, g2, _, _⟩ := G.fr hg
  obtain ⟨g3, g4, _, _⟩ := G.fr hg2
  refine tW.of (RT.pe_listRev G.calm g1 g2 g3 g4 pe_w (star_cons hpe [] X.env)) (hse σ s F H f0 t1 _ _ r0 e2 fun v F1 H1 h1 st r1 vw => ?_)
  obtain ⟨xs, rfl, rfl⟩ := rev_inv e3
  obtain ⟨a, vs, rfl, ea, rs⟩ := vw.seqL r1.same
  exact ⟨a, vs, rfl, SqL.of ea, fun p n => q _ _ _ _ _ ((Res.lst r1.same n rs.rev).post st r1)⟩

/-! ### comparisons -/
theorem se_cmp (G : Good P k c X) {o : COp} {op : CmpOp} {a b : Expr} {pos : Pos} {m : S → Option (List T × S)} (ho : copB o op = true) (hn : noBehind op b = true) (hse : SV2 X a b m) :
    SE X (.Compare a [op] [b] pos) fun s => bnd (m s) fun ts s => (cmpTs o ts).map fun c => (.dat (.bool c), s) := fun σ s F H f0 t s' Q r0 em q => by
  obtain ⟨ts, s1, e1, em⟩ := bnd_eq em
  obtain ⟨u, e3, e4⟩ := Option.map_eq_some_iff.mp em
  cases e4
  have e := copB_ok ho
  subst e
  refine tW.of (pe_cmpR op_w pe_w pe_w (by simpa [noBehind] using hn)) (hse σ s F H f0 ts _ _ r0 e1 fun x y v w F1 H1 h1 ht st r1 vx vy => ?_)
  subst ht
  exact cmpT_ok G.hu e3 r1.same vx vy (q _ F1 H1 [] h1 (PostD.post ⟨st, .bl _, r1⟩))
theorem se_cmp2 (G : Good P k c X) {o o' : COp} {op op' : CmpOp} {a b d : Expr} {pos : Pos} {ma mb md : S → Option (T × S)} (ho : copB o op = true) (ho' : copB o' op' = true) (hl : lastMarks [op, op'] [b, d] = false) (ha : SE X a ma) (hb : SE X b mb) (hd : SE X d md) :
    SE X (.Compare a [op, op'] [b, d] pos) fun s => bnd (dOf (ma s)) fun x s => bnd (dOf (mb s)) fun y s => (cmpT o (.dat x) (.dat y)).bind fun k =>
      if k then bnd (dOf (md s)) fun z s => (cmpT o' (.dat y) (.dat z)).map fun k' => (.dat (.bool k'), s) else some (.dat (.bool false), s) := fun σ s F H f0 t s' Q r0 em q => by
  obtain ⟨x, s1, e1, em⟩ := bnd_eq em
  obtain ⟨y, s2, e2, em⟩ := bnd_eq em
  obtain ⟨kk, e3, em⟩ := Option.bind_eq_some_iff.mp em
  have e := copB_ok ho
  subst e
  have e := copB_ok ho'
  subst e
  refine tW.of (pe_chain op_w op_w pe_w pe_w pe_w hl) (ha.d σ s F H f0 x s1 _ r0 e1 fun v F1 H1 h1 p1 => hb.d σ s1 F1 H1 h1 y s2 _ p1.rel e2 fun w F2 H2 h2 p2 => ?_)
  obtain ⟨p, rv⟩ := p1.onD p2
  refine cmpT_ok G.hu e3 p.rel.same (.dat rv) (.dat p.rp) ⟨kk, rfl, ?_⟩
  cases kk with
  | false =>
    rw [if_neg Bool.false_ne_true] at em ⊢
    cases em
    exact q _ F2 H2 [] h2 (PostD.post ⟨p.step, .bl _, p.rel⟩)
  | true =>
    rw [if_pos rfl] at em ⊢
    obtain ⟨z, s3, e4, em⟩ := bnd_eq em
    obtain ⟨k2, e5, e6⟩ := Option.map_eq_some_iff.mp em
    cases e6
    refine hd.d σ s2 F2 H2 h2 z _ _ p.rel e4 fun w2 F3 H3 h3 p3 => ?_
    exact cmpT_ok G.hu e5 p3.rel.same (.dat (p.rp.mono p3.step.ff)) (.dat p3.rp) (q _ F3 H3 [] h3 (PostD.post ⟨p.step.trans p3.step, .bl _, p3.rel⟩))
theorem isNone_vw {K : PySem.W.Frag} {v : V} {t : T} (s : Same F H) (o : Vw K F H v t) : decide (v = .non) = isNone t := by
  cases o with
  | dat r => cases r <;> rfl
  | lst _ _ => rfl
  | dK _ _ => rfl
  | dT _ _ => rfl
  | scr _ => rfl
theorem is_beh {a : Expr} {j pos'} : behindInMarks .Is (.Constant .none j pos') = false ∧ behindInMarks .IsNot (.Constant .none j pos') = false := ⟨by with_unfolding_all rfl, by with_unfolding_all rfl⟩
theorem se_isN {a : Expr} {j pos pos'} {m : S → Option (T × S)} (h : SV1 X a m) : SE X (.Compare a [.Is] [.Constant .none j pos'] pos) fun s => bnd (m s) fun x s => some (.dat (.bool (isNone x)), s) := fun σ s F H f0 t s' Q r0 em q => by
  obtain ⟨x, s1, e1, em⟩ := bnd_eq em
  cases em
  refine tW.of (pe_cmp (pc_isN pe_w) (is_beh (a := a)).1) (h σ s F H f0 x _ _ r0 e1 fun v F1 H1 h1 st r1 vw => ?_)
  rw [isNone_vw r1.same vw]
  exact q _ F1 H1 [] h1 (PostD.post ⟨st, .bl _, r1⟩)
theorem se_isnN {a : Expr} {j pos pos'} {m : S → Option (T × S)} (h : SV1 X a m) : SE X (.Compare a [.IsNot] [.Constant .none j pos'] pos) fun s => bnd (m s) fun x s => some (.dat (.bool (!isNone x)), s) := fun σ s F H f0 t s' Q r0 em q => by
  obtain ⟨x, s1, e1, em⟩ := bnd_eq em
  cases em
  refine tW.of (pe_cmp (pc_notN pe_w) (is_beh (a := a)).2) (h σ s F H f0 x _ _ r0 e1 fun v F1 H1 h1 st r1 vw => ?_)
  rw [isNone_vw r1.same vw]
  exact q _ F1 H1 [] h1 (PostD.post ⟨st, .bl _, r1⟩)

/-! ### dicts -/
theorem Res.dKo {K : PySem.W.Frag} (s : Same F H) {p : Addr} (n : H p = none) {kvs' : List (Key × V)} {kvs : List (Key × D)} (r : KVs F kvs' kvs) : Res K F H (.ref p) (.dK false kvs) F (upd H p (.dK kvs')) [p] :=
  ⟨Step.newO s n, .dK upd_same (s.free n) r, by simp⟩
theorem Res.dTo {K : PySem.W.Frag} (s : Same F H) {p : Addr} (n : H p = none) {kvs' : List (List Key × V)} {kvs : List (List Key × D)} (r : KVs F kvs' kvs) : Res K F H (.ref p) (.dT false kvs) F (upd H p (.dT kvs')) [p] :=
  ⟨Step.newO s n, .dT upd_same (s.free n) r, by simp⟩
theorem se_dnew {tk : Bool} {pos : Pos} : SE X (.Dict [] [] pos) fun s => some (if tk then .dT false [] else .dK false [], s) := fun σ s F H f0 t s' Q r0 em q => by
  cases em
  cases tk with
  | true => exact tW.of pe_dnewT fun p n => q _ _ _ _ _ ((Res.dTo r0.same n .nil).post (Step.refl r0.same) r0)
  | false => exact tW.of pe_dnewK fun p n => q _ _ _ _ _ ((Res.dKo r0.same n .nil).post (Step.refl r0.same) r0)
/-- {k: v} with an int or a text as key: the pair is told with the new dict there -/
theorem se_d1K {kx vx : Expr} {pos : Pos} {mk mv : S → Option (T × S)} (hk : SE X kx mk) (hv : SE X vx mv) : SE X (.Dict [some kx] [vx] pos) fun s => bnd (dOf (mk s)) fun x s => bnd (dOf (mv s)) fun y s => (toKey x).map fun k => (.dK false [(k, y)], s) := fun σ s F H f0 t s' Q r0 em q => by
  obtain ⟨x, s1, e1, em⟩ := bnd_eq em
  obtain ⟨y, s2, e2, em⟩ := bnd_eq em
  obtain ⟨kk, e3, e4⟩ := Option.map_eq_some_iff.mp em
  cases e4
  refine tW.of (pe_disp (trs := [(tW X kx, tW X vx)]) (pps_cons pe_w pe_w pps_nil) rfl rfl (by simp) (by simp)) fun p n => ?_
  have nF : F p = none := r0.same.free n
  have st0 : Step F H f0 F (upd H p (.dK [])) (p :: f0) := Step.newO r0.same n
  have np : p ∉ f0 := fun m => by obtain ⟨_, o, e, _⟩ := r0.has p m; rw [n] at e; cases e
  have kp : Keeps F H F (upd H p (.dK [])) f0 := ⟨Same.refl _, fun b m => ⟨upd_ne (fun z => np (z ▸ m)), (r0.has b m).1⟩⟩
  have r1 : Rel X.K F (upd H p (.dK [])) σ s f0 := ⟨st0.fh, r0.sl.keep kp, r0.nd⟩
  have hp : ∀ b ∈ [p], F b = none ∧ ∃ o, upd H p (.dK []) b = some o ∧ Mut (some o) := fun b m => by
    rcases List.mem_singleton.mp m with rfl
    exact ⟨nF, _, upd_same, trivial⟩
  have hp0 : ∀ b ∈ [p], b ∉ f0 := fun b m => by
    rcases List.mem_singleton.mp m with rfl
    exact np
  refine hk.d σ s F _ f0 x s1 _ r1 e1 fun v F1 H1 h1 p1 => hv.d σ s1 F1 H1 h1 y _ _ p1.rel e2 fun w F2 H2 h2 p2 => ?_
  obtain ⟨p3, rv⟩ := p1.onD p2
  have k2 := p3.step.keeps hp0 hp
  have ap := p3.step.apart hp0 fun b m => let ⟨_, o, e, _⟩ := hp b m; ⟨o, e⟩
  obtain ⟨z1, z2⟩ := k2.at_ p (by simp)
  have hv := key_of' rv e3
  refine ⟨by rw [z1]; exact upd_same, [(kk, w)], by rw [hv]; rfl, by simp, ?_⟩
  have hm : mergeK [] [(kk, w)] = [(kk, w)] := rfl
  rw [hm]
  have n2 : p ∉ h2 := ap p (by simp)
  have st3 : Step F H f0 F2 (upd H2 p (.dK [(kk, w)])) (p :: h2) := by
    have a1 : Step F H f0 F2 H2 (p :: h2) := st0.trans ((p3.step.frame [p]).mono (fun b m => by simpa using m) fun b m => by simpa using m)
    exact a1.trans (Step.set p2.rel.same (by simp) z2)
  have kk2 : Keeps F2 H2 F2 (upd H2 p (.dK [(kk, w)])) h2 := ⟨Same.refl _, fun b m => ⟨upd_ne (fun z => n2 (z ▸ m)), (p2.rel.has b m).1⟩⟩
  exact q _ F2 _ [p] h2 ⟨st3, .dK upd_same z2 (.cons ⟨rfl, p2.rp⟩ .nil), p2.rel.sl.keep kk2, List.nodup_cons.mpr ⟨n2, p2.rel.nd⟩⟩
end
end Eng

/-! ### Eng18 -/
/-! Eng18: calls. -/
namespace Eng
open PySem PySem.Spec PyProof.Rows L2
/-- the values of a call's arguments before the locals are lent -/
inductive AV (K : PySem.W.Frag) (F H : Hp) (σ : L2.St) : As → List V → List T → Prop
  | nil : AV K F H σ .nil [] []
  | ref {i : Nat} {as : As} {v : V} {vs : List V} {ts : List T} : σ[i]? = some (some v) → AV K F H σ as vs ts → AV K F H σ (.ref i as) (v :: vs) ts
  | val {e : E} {as : As} {v : V} {vs : List V} {t : T} {ts : List T} : Own K F H v t [] → AV K F H σ as vs ts → AV K F H σ (.val e as) (v :: vs) (t :: ts)
def SAs (X : Cx) (as : As) (es : List Expr) (m : S → Option (List T × S)) : Prop := ∀ (σ : L2.St) (s : S) (F H : Hp) (f : List Addr) (ts : List T) (s' : S) (Q : List V → Hp → Prop), Rel X.K F H σ s f → m s = some (ts, s') →
  (∀ vs F' H' h, Step F H f F' H' h → Rel X.K F' H' σ s' h → AV X.K F' H' σ as vs ts → Q vs H') → aW X es σ H Q
section
variable {P : Prg} {k : Nat} {c : CK} {X : Cx} {F F' H H' : Hp} {σ : L2.St} {s : S} {f : List Addr} {K : PySem.W.Frag}
theorem AV.mono (ff : Same F F') : ∀ {as : As} {vs : List V} {ts : List T}, AV K F H σ as vs ts → AV K F' H' σ as vs ts
  | _, _, _, .nil => .nil
  | _, _, _, .ref e q => .ref e (AV.mono ff q)
  | _, _, _, .val o q => .val (o.keep ⟨ff, by simp⟩) (AV.mono ff q)
theorem sas_nil : SAs X .nil [] fun s => some ([], s) := fun σ s F H f ts s' Q r em q => by
  cases em
  exact aW.of pa_nil (q [] F H f (Step.refl r.same) r .nil)
theorem sas_ref (G : Good P k c X) {i : Nat} {x : Str} {pos : Pos} {as : As} {es : List Expr} {m : S → Option (List T × S)} (hn : nmB c i x = true) (hs : SAs X as es m) : SAs X (.ref i as) (.Name x pos :: es) fun s => (getS s i).bind fun _ => m s :=
  fun σ s F H f ts s' Q r em q => by
  obtain ⟨t0, e1, em⟩ := Option.bind_eq_some_iff.mp em
  obtain ⟨v, _, ev, _⟩ := r.ownAt e1
  exact aW.of (pa_cons pe_w pa_w (star_cons rfl es X.env)) (gives_var G hn ev pos _ (hs σ s F H f ts s' _ r em fun vs F1 H1 h st r1 av => q (v :: vs) F1 H1 h st r1 (.ref ev av)))
theorem sas_val {e : E} {a : Expr} {as : As} {es : List Expr} {ma : S → Option (T × S)} {m : S → Option (List T × S)} (hp : plainX a = true) (ha : SE X a ma) (hs : SAs X as es m) : SAs X (.val e as) (a :: es) fun s => bnd (fOf (ma s)) fun t s => bnd (m s) fun ts s => some (t :: ts, s) :=
  fun σ s F H f ts s' Q r em q => by
  obtain ⟨t, s1, e1, em⟩ := bnd_eq em
  obtain ⟨ts1, s2, e2, em⟩ := bnd_eq em
  cases em
  obtain ⟨t0, _, e0⟩ := fOf_eq e1
  refine aW.of (pa_cons pe_w pa_w (star_cons hp es X.env)) (ha.f σ s F H f t s1 _ r e1 fun v F1 H1 g1 h1 p1 => hs σ s1 F1 H1 h1 ts1 _ _ p1.rel e2 fun vs F2 H2 h2 st r2 av => ?_)
  have hg := frz_nil e0 p1.own
  subst hg
  exact q (v :: vs) F2 H2 h2 ((by simpa using p1.step : Step F H f F1 H1 h1).trans st) r2 (.val (p1.own.keep ⟨st.ff, by simp⟩) av)
theorem lend_ok : ∀ {as : As} {vs : List V} {ts us : List T} {s s' : S} {h : List Addr}, Sls K F H σ s h → AV K F H σ as vs ts → lend as ts s = some (us, s') → ∃ g h', Owns K F H vs us g ∧ Sls K F H σ s' h' ∧ h.Perm (g ++ h')
  | .nil, _, _, us, s, s', h, sl, .nil, e => by
    simp only [lend, Option.some.injEq, Prod.mk.injEq] at e
    obtain ⟨rfl, rfl⟩ := e
    exact ⟨[], h, .nil, sl, List.Perm.refl _⟩
  | .ref i as, _, ts, us, s, s', h, sl, .ref ev av, e => by
    simp only [lend] at e
    obtain ⟨t, e1, e⟩ := Option.bind_eq_some_iff.mp e
    obtain ⟨us', s1, e2, e⟩ := bnd_eq e
    cases e
    obtain ⟨v', g1, r1, q1, q2, q3, q4⟩ := sl.take e1
    rw [ev] at q1
    cases q1
    obtain ⟨g2, h', z1, z2, z3⟩ := lend_ok q3 av e2
    refine ⟨g1 ++ g2, h', .cons q2 z1, z2, q4.trans ?_⟩
    rw [List.append_assoc]
    exact List.Perm.append_left g1 z3
  | .val e as, _, _, us, s, s', h, sl, .val (ts := ts) o av, e' => by
    simp only [lend] at e'
    obtain ⟨us', s1, e2, e'⟩ := bnd_eq e'
    cases e'
    obtain ⟨g2, h', z1, z2, z3⟩ := lend_ok sl av e2
    exact ⟨[] ++ g2, h', .cons o z1, z2, z3⟩
/-- where the lent things stand -/
inductive AR (σ : L2.St) : As → List V → Prop
  | nil : AR σ .nil []
  | ref {i : Nat} {as : As} {v : V} {vs : List V} : σ[i]? = some (some v) → AR σ as vs → AR σ (.ref i as) (v :: vs)
  | val {e : E} {as : As} {v : V} {vs : List V} : AR σ as vs → AR σ (.val e as) (v :: vs)
theorem AV.ar : ∀ {as : As} {vs : List V} {ts : List T}, AV K F H σ as vs ts → AR σ as vs
  | _, _, _, .nil => .nil
  | _, _, _, .ref e q => .ref e (AV.ar q)
  | _, _, _, .val _ q => .val (AV.ar q)
theorem giveBack_ok : ∀ {as : As} {vs : List V} {us : List (Option T)} {s s' : S} {h g : List Addr}, Sls K F H σ s h → AR σ as vs → Sls0 K F H (vs.map some) us g → (g ++ h).Nodup → giveBack as us s = some s' → ∃ h', Sls K F H σ s' h' ∧ (∀ a ∈ h', a ∈ g ++ h) ∧ h'.Nodup
  | .nil, _, us, s, s', h, g, sl, .nil, sg, nd, e => by
    simp only [giveBack, Option.some.injEq] at e
    subst e
    exact ⟨h, sl, fun a m => List.mem_append_right _ m, (List.nodup_append.mp nd).2.1⟩
  | .ref i as, _, us, s, s', h, g, sl, .ref (v := v) (vs := vs) ev ar, sg, nd, e => by
    cases us with
    | nil => simp [giveBack] at e
    | cons u us =>
      simp only [giveBack] at e
      obtain ⟨r, g0, q1, q2⟩ := sl.drop i (some v)
      rw [set_self ev] at q1
      have nd0 : (g0 ++ r).Nodup := q2.nodup_iff.mp (List.nodup_append.mp nd).2.1
      cases sg with
      | none sg' =>
        obtain ⟨h', z1, z2, z3⟩ := giveBack_ok q1 ar sg' (nd_app (List.nodup_append.mp nd).1 (List.nodup_append.mp nd0).2.1 fun b m z => nd_apart' nd b m (q2.mem_iff.mpr (List.mem_append_right _ z))) e
        refine ⟨h', z1, fun a m => ?_, z3⟩
        rcases List.mem_append.mp (z2 a m) with m | m
        · exact List.mem_append_left _ m
        · exact List.mem_append_right _ (q2.mem_iff.mpr (List.mem_append_right _ m))
      | @some _ t _ _ g1 g2 o sg' =>
        have hl : i < s.length := by
          have := sl.len
          obtain ⟨h1, _⟩ := List.getElem?_eq_some_iff.mp ev
          omega
        have sl2 : Sls K F H σ (s.set i (some t)) (g1 ++ r) := by
          have := q1.put getS_set_none (by rw [List.length_set]; exact hl) o
          rw [set_self ev, List.set_set] at this
          exact this
        have nd1 : (g2 ++ (g1 ++ r)).Nodup := by
          have a1 := (List.nodup_append.mp nd).1
          have a2 : (g2 ++ g1).Nodup := List.perm_append_comm.nodup_iff.mp a1
          rw [← List.append_assoc]
          refine nd_app a2 (List.nodup_append.mp nd0).2.1 fun b m z => ?_
          have m' : b ∈ g1 ++ g2 := by
            rcases List.mem_append.mp m with m | m
            · exact List.mem_append_right _ m
            · exact List.mem_append_left _ m
          exact nd_apart' nd b m' (q2.mem_iff.mpr (List.mem_append_right _ z))
        obtain ⟨h', z1, z2, z3⟩ := giveBack_ok sl2 ar sg' nd1 e
        refine ⟨h', z1, fun a m => ?_, z3⟩
        rcases List.mem_append.mp (z2 a m) with m | m
        · exact List.mem_append_left _ (List.mem_append_right _ m)
        · rcases List.mem_append.mp m with m | m
          · exact List.mem_append_left _ (List.mem_append_left _ m)
          · exact List.mem_append_right _ (q2.mem_iff.mpr (List.mem_append_right _ m))
  | .val e as, _, us, s, s', h, g, sl, .val (vs := vs) ar, sg, nd, e' => by
    cases us with
    | nil => simp [giveBack] at e'
    | cons u us =>
      simp only [giveBack] at e'
      cases sg with
      | none sg' => exact giveBack_ok sl ar sg' nd e'
      | @some _ t _ _ g1 g2 o sg' =>
        obtain ⟨h', z1, z2, z3⟩ := giveBack_ok sl ar sg' (by rw [List.append_assoc] at nd; exact (List.nodup_append.mp nd).2.1) e'
        refine ⟨h', z1, fun a m => ?_, z3⟩
        rcases List.mem_append.mp (z2 a m) with m | m
        · exact List.mem_append_left _ (List.mem_append_right _ m)
        · exact List.mem_append_right _ m
/-- from the callee's promise to what stands behind the call -/
theorem call_ok {j : Nat} {as : As} {vs : List V} {ts : List T} {s1 s' : S} {F0 H0 : Hp} {h : List Addr} {t : T} {Q : VK} (st0 : Step F0 H0 f F H h) (r : Rel K F H σ s1 h) (av : AV K F H σ as vs ts) (e : callWith (run P k) (refsOf P) j as ts s1 = some (t, s'))
    (q : ∀ v F' H' g h, Post K F0 H0 f σ v t s' F' H' g h → Q v H') : spF K P k j vs H Q E0 := by
  unfold callWith at e
  split at e
  · obtain ⟨us, s2, e1, e⟩ := bnd_eq e
    obtain ⟨t1, bs, e2, e⟩ := bnd_eq e
    obtain ⟨s3, e3, e4⟩ := Option.map_eq_some_iff.mp e
    cases e4
    obtain ⟨g, h', z1, z2, z3⟩ := lend_ok r.sl av e1
    have nd := z3.nodup_iff.mp r.nd
    refine ⟨F, us, g, t, bs, r.same, z1, (List.nodup_append.mp nd).1, e2, fun v F' H' f1 g1 st ov sl n1 => ?_⟩
    have has : ∀ a ∈ h', F a = none ∧ ∃ o, H a = some o ∧ Mut (some o) := fun a m => r.has a (z3.mem_iff.mpr (List.mem_append_right _ m))
    have kk := st.keeps (nd_apart nd) has
    have ap := st.apart (nd_apart nd) fun b m => let ⟨_, o, e, _⟩ := has b m; ⟨o, e⟩
    obtain ⟨g2, sg, pg⟩ := sl.ex
    have n2 : (g2 ++ h').Nodup := nd_app (pg.nodup_iff.mpr (List.nodup_append.mp n1).2.1) (List.nodup_append.mp nd).2.1 fun b m z => ap b z (List.mem_append_right _ (pg.mem_iff.mp m))
    obtain ⟨h3, y1, y2, y3⟩ := giveBack_ok (z2.keep kk) av.ar sg n2 e3
    refine q v F' H' f1 h3 ⟨st0.trans ((st.frame h').mono (fun b m => ?_) fun b m => ?_), ov, y1, nd_app (List.nodup_append.mp n1).1 y3 fun b m z => ?_⟩
    · rcases List.mem_append.mp m with m | m
      · exact z3.mem_iff.mpr (List.mem_append_right _ m)
      · exact z3.mem_iff.mpr (List.mem_append_left _ m)
    · rcases List.mem_append.mp m with m | m
      · exact List.mem_append_right _ (List.mem_append_left _ m)
      · rcases List.mem_append.mp (y2 b m) with m | m
        · exact List.mem_append_right _ (List.mem_append_right _ (pg.mem_iff.mp m))
        · exact List.mem_append_left _ m
    · rcases List.mem_append.mp (y2 b z) with z | z
      · exact nd_apart' n1 b m (pg.mem_iff.mp z)
      · exact ap b z (List.mem_append_left _ m)
  · cases e
theorem Good.call (G : Good P k c X) {j : Nat} {x : Str} (h : fnB c j x = true) : Gl X x ∧ (x == ("__debug__" : Str)) = false ∧ ∃ d : Fn, P.fns[j]? = some d ∧ d.name = x ∧ CallOk P k j d c.kws X := by
  unfold fnB at h
  simp only [Bool.and_eq_true, decide_eq_true_eq] at h
  obtain ⟨g1, g2, _⟩ := G.gl h.1
  obtain ⟨d, d1, d2⟩ := G.names j x h.2
  exact ⟨g1, g2, d, d1, d2, G.fns j d d1⟩
theorem okAs_plain : ∀ {as : As} {es : List Expr}, okAs c as es = true → es.all plainX = true
  | .nil, [], _ => rfl
  | .nil, _ :: _, h => by simp [okAs] at h
  | .ref _ _, [], h => by simp [okAs] at h
  | .val _ _, [], h => by simp [okAs] at h
  | .ref i as, e :: es, h => by
    cases e <;> try (simp [okAs] at h; done)
    simp only [okAs, Bool.and_eq_true] at h
    rw [List.all_cons, Bool.and_eq_true]
    exact ⟨rfl, okAs_plain h.2⟩
  | .val e as, a :: es, h => by
    simp only [okAs, Bool.and_eq_true] at h
    rw [List.all_cons, Bool.and_eq_true]
    exact ⟨h.1.2, okAs_plain h.2⟩
theorem se_call (G : Good P k c X) {j : Nat} {x : Str} {as : As} {es : List Expr} {p pos : Pos} {m : S → Option (List T × S)} (hf : fnB c j x = true) (hpl : es.all plainX = true) (hs : SAs X as es m) (hnil : es = [] → ∀ s ts s', m s = some (ts, s') → as = .nil ∧ ts = [] ∧ s' = s) :
    SE X (.Call (.Name x p) es [] pos) fun s => bnd (m s) fun ts s => callWith (run P k) (refsOf P) j as ts s := fun σ s F H f t s' Q r em q => by
  obtain ⟨ts, s1, e1, em2⟩ := bnd_eq em
  obtain ⟨g1, g2, d, d1, rfl, ⟨fa, fd, m1, m2, m3, m4, m5⟩⟩ := G.call hf
  cases es with
  | nil =>
    obtain ⟨rfl, rfl, rfl⟩ := hnil rfl s ts s1 e1
    exact tW.of (pe_call0 (E := E0) m3 G.room g1 m1 m2 m4 .nil pass0 g2) (call_ok (Step.refl r.same) r .nil em2 q)
  | cons e es =>
    have h1 : plainX e = true ∧ es.all plainX = true := by simpa using hpl
    refine tW.of (pe_call (E := E0) m3 G.room g1 m1 m2 m4 .nil pass0 pa_w g2 (star_cons h1.1 es X.env) (star_any h1.2 pos X.env)) (hs σ s F H f ts s1 _ r e1 fun vs F1 H1 h1 st r1 av => ?_)
    rw [List.append_nil]
    exact call_ok st r1 av em2 q

/-! ### calls by keywords alone -/
theorem kw_all : ∀ {kws : List Keyword} {ks : List Str} (pos : Pos) (env : Env), kws.map (·.arg) = ks.map some → (backToKw pos (keywordEach kws env)).all (·.1.isSome) = true ∧ (backToKw pos (keywordEach kws env)).filterMap (·.1) = ks ∧ (backToKw pos (keywordEach kws env)).any (·.1.isNone) = false
  | [], ks, pos, env, h => by
    cases ks with
    | nil => exact ⟨rfl, rfl, rfl⟩
    | cons _ _ => simp at h
  | ⟨a, v, kp⟩ :: kws, ks, pos, env, h => by
    cases ks with
    | nil => simp at h
    | cons y ys =>
      simp only [List.map_cons, List.cons.injEq] at h
      obtain ⟨h1, h2⟩ := h
      obtain ⟨q1, q2, q3⟩ := kw_all pos env h2
      subst h1
      refine ⟨?_, ?_, ?_⟩
      · show (true && (backToKw pos (keywordEach kws env)).all (·.1.isSome)) = true
        rw [q1]; rfl
      · show y :: (backToKw pos (keywordEach kws env)).filterMap (·.1) = y :: ys
        rw [q2]
      · show (false || (backToKw pos (keywordEach kws env)).any (·.1.isNone)) = false
        rw [q3]; rfl
theorem pe_callKO {CX : CXT} {f0 : Addr} {fd : FuncData} {ps ks : List Str} {sp : Sp} {E : XK} {x : Str} {p pos : Pos} {kws : List Keyword} {tk : TA} {g : List Value → List Value → List Value} {gV : List V → List V → List V}
    (F : FnOk X.prog X.w X.K X.mg X.base CX k f0 fd ps sp) (hr : Room k X.A) (hg : Gl X x) (hm : X.mg x = some (.ref f0)) (hk : PySem.W.keepIn X.K (.ref f0) = true) (hb : KBinds X.K fd ps ks g gV) (hx : Passes CX X E)
    (hkw : PK X kws tk) (h : kws.map (·.arg) = ks.map some) (hdb : (x == ("__debug__" : Str)) = false) :
    PE X (.Call (.Name x p) [] kws pos) (fun σ H Q => tk σ H fun zs H1 => sp (gV [] zs) H1 Q E) := by
  obtain ⟨q1, q2, q3⟩ := kw_all pos X.env h
  refine ⟨fun pins s σ H Q I h => ?_⟩
  refine wpAny_Call_Name_kw (ld_glob I hg hm ?_ hdb)
  refine PySem.W.callWith_KW0 (h₀ := X.base) I.ok.mod.kin hk q1 ?_ (by rw [q3]; rfl)
  refine thn (hkw.run pos pins s σ H _ I h) fun ws s2 ⟨zs, H2, I2, rz, q2'⟩ => ⟨I2.kIn, ?_⟩
  rw [q2]
  exact run_fnk F hr hb hx I2 .nil rz q2'
/-- the keywords' values: weakest wish -/
def kW (X : Cx) (kws : List Keyword) : TA := fun σ H Q => ∀ (pos : Pos) (pins : List (Addr × Obj)) (s : Shared), Inv X pins σ H s → wpAny (model X.prog X.w) X.A (evalAll ((backToKw pos (keywordEach kws X.env)).map (·.2))) (AP X pins σ Q) X.xe s
theorem pk_w {kws : List Keyword} : PK X kws (kW X kws) := ⟨fun pos pins s σ H Q I h => h pos pins s I⟩
theorem kW.of {kws : List Keyword} {t : TA} {σ : L2.St} {H : Hp} {Q : List V → Hp → Prop} (h : PK X kws t) (q : t σ H Q) : kW X kws σ H Q := fun pos pins s I => h.run pos pins s σ H Q I q
def SKs (X : Cx) (kws : List Keyword) (m : S → Option (List T × S)) : Prop := ∀ (σ : L2.St) (s : S) (F H : Hp) (f : List Addr) (ts : List T) (s' : S) (Q : List V → Hp → Prop), Rel X.K F H σ s f → m s = some (ts, s') →
  (∀ vs F' H' g h, PostL X.K F H f σ vs ts s' F' H' g h → Q vs H') → kW X kws σ H Q
theorem sks_nil : SKs X [] fun s => some ([], s) := fun σ s F H f ts s' Q r em q => by
  cases em
  exact kW.of pk_nil (q [] F H [] f (.nil r))
theorem sks_cons {e : Expr} {nm : Option Str} {kp : Pos} {kws : List Keyword} {ma : S → Option (T × S)} {ms : S → Option (List T × S)} (ha : SE X e ma) (hs : SKs X kws ms) : SKs X (⟨nm, e, kp⟩ :: kws) fun s => bnd (ma s) fun t s => bnd (ms s) fun ts s => some (t :: ts, s) :=
  fun σ s F H f ts s' Q r em q => by
  obtain ⟨x, s1, e1, em⟩ := bnd_eq em
  obtain ⟨xs, s2, e2, em⟩ := bnd_eq em
  cases em
  exact kW.of (pk_cons pe_w pk_w) (ha σ s F H f x s1 _ r e1 fun v F1 H1 g h p => hs σ _ F1 H1 h xs _ _ p.rel e2 fun vs F2 H2 g2 h2 p2 => q (v :: vs) F2 H2 (g ++ g2) h2 (.cons p p2))
theorem perm_rps {vs : List V} {ds : List D} (r : Rps F vs ds) : ∀ {perm : List Nat} {us : List T}, (perm.mapM fun j => (ds[j]?).map T.dat) = some us → Owns K F H (perm.map fun j => vs.getD j default) us []
  | [], us, e => by
    simp only [List.mapM_nil] at e
    cases e
    exact .nil
  | j :: perm, us, e => by
    rw [List.mapM_cons] at e
    obtain ⟨t, e1, e⟩ := Option.bind_eq_some_iff.mp e
    obtain ⟨us', e2, e3⟩ := Option.bind_eq_some_iff.mp e
    cases e3
    obtain ⟨d, e4, e5⟩ := Option.map_eq_some_iff.mp e1
    subst e5
    obtain ⟨v, q1, q2⟩ := r.get e4
    have : vs.getD j default = v := by rw [List.getD_eq_getElem?_getD, q1]; rfl
    rw [List.map_cons, this]
    exact .cons (f := []) (g := []) (.dat q2) (perm_rps r e2)
theorem perm_len {ds : List D} : ∀ {perm : List Nat} {us : List T}, (perm.mapM fun j => (ds[j]?).map T.dat) = some us → us.length = perm.length
  | [], us, e => by simp only [List.mapM_nil] at e; cases e; rfl
  | j :: perm, us, e => by
    rw [List.mapM_cons] at e
    obtain ⟨t, e1, e⟩ := Option.bind_eq_some_iff.mp e
    obtain ⟨us', e2, e3⟩ := Option.bind_eq_some_iff.mp e
    cases e3
    simp [perm_len e2]
theorem se_callK (G : Good P k c X) {j : Nat} {x : Str} {kws : List Keyword} {ks : List Str} {perm : List Nat} {p pos : Pos} {m : S → Option (List T × S)} (hf : fnB c j x = true) (hk : kws.map (·.arg) = ks.map some) (hmem : (j, 0, ks, perm) ∈ c.kws) (hs : SKs X kws m) :
    SE X (.Call (.Name x p) [] kws pos) fun s => bnd (m s) fun ts s => if ts.length = ks.length then callKW (run P k) (refsOf P) j perm ts s else none := fun σ s F H f t s' Q r em q => by
  obtain ⟨ts, s1, e1, em2⟩ := bnd_eq em
  obtain ⟨g1, g2, d, d1, rfl, ⟨fa, fd, m1, m2, m3, m4, m5⟩⟩ := G.call hf
  split at em2
  case isFalse => cases em2
  rename_i hlen
  unfold callKW at em2
  obtain ⟨ds, e2, em2⟩ := Option.bind_eq_some_iff.mp em2
  split at em2
  · obtain ⟨us, e3, em2⟩ := Option.bind_eq_some_iff.mp em2
    obtain ⟨t1, bs, e4, em2⟩ := bnd_eq em2
    cases em2
    refine tW.of (pe_callKO (E := E0) m3 G.room g1 m1 m2 (m5 0 ks perm hmem) pass0 pk_w hk g2) (hs σ s F H f ts _ _ r e1 fun vs F1 H1 g h pl => ?_)
    have hl : vs.length = ks.length := by rw [pl.own.len, hlen]
    obtain ⟨st, rp, r1⟩ := pl.data e2
    have hg : gK 0 ks.length perm [] vs = perm.map fun j => vs.getD j default := by
      unfold gK
      rw [if_pos ⟨rfl, hl⟩]
      rfl
    rw [hg]
    refine ⟨_, us, [], t, bs, r1.same, perm_rps rp e3, List.nodup_nil, e4, fun v F' H' f1 g1 st2 ov sl n1 => ?_⟩
    have kk := st2.keeps (g := h) (by simp) r1.has
    have ap := st2.apart (g := h) (by simp) fun b m => let ⟨_, o, e, _⟩ := r1.has b m; ⟨o, e⟩
    refine q v F' H' f1 h ⟨st.trans ((st2.frame h).mono (fun b m => by simpa using m) fun b m => ?_), ov, r1.sl.keep kk, nd_app (List.nodup_append.mp n1).1 r1.nd fun b m z => ap b z (List.mem_append_left _ m)⟩
    rcases List.mem_append.mp m with m | m
    · exact List.mem_append_right _ (List.mem_append_left _ m)
    · exact List.mem_append_left _ m
  · cases em2
end
end Eng

/-! ### Eng19 -/
/-! Eng19: what loops walk; targets. -/
namespace Eng
open PySem PySem.Spec PyProof.Rows L2
/-- a walk over data -/
structure Wk (K : PySem.W.Frag) (F : Hp) (J : It) (ds : List D) : Prop where
  go : ∀ (F2 H : Hp) (i : Nat), Same F F2 → Same F2 H → i < ds.length → J.go i H
  stop : ∀ (F2 H : Hp), Same F F2 → Same F2 H → J.stop ds.length H
  yld : ∀ (F2 H : Hp) (i : Nat) (x : V) (H' : Hp), Same F F2 → Same F2 H → i < ds.length → J.yld i H x H' → ∃ F' d, Step F2 H [] F' H' [] ∧ ds[i]? = some d ∧ Rp F' x d
section
variable {K : PySem.W.Frag} {F H : Hp}
theorem Wk.mono {F' : Hp} {J : It} {ds : List D} (w : Wk K F J ds) (s : Same F F') : Wk K F' J ds :=
  ⟨fun F2 H i a b c => w.go F2 H i (s.trans a) b c, fun F2 H a b => w.stop F2 H (s.trans a) b, fun F2 H i x H' a b c y => w.yld F2 H i x H' (s.trans a) b c y⟩
theorem lt_get {ds : List D} {i : Nat} (h : i < ds.length) : ∃ d, ds[i]? = some d := ⟨ds[i], List.getElem?_eq_getElem h⟩
theorem wk_list {a : Addr} {xs : List V} {ds : List D} (e : F a = some (.lst xs)) (r : Rps F xs ds) : Wk K F (Itl K a) ds := by
  refine ⟨fun F2 H i a1 b h => ?_, fun F2 H a1 b => ⟨xs, SqL.of (b _ _ (a1 _ _ e)), by rw [r.len]; exact Nat.le_refl _⟩, fun F2 H i x H' a1 b h y => ?_⟩
  · obtain ⟨d, hd⟩ := lt_get h
    obtain ⟨v, hv, _⟩ := r.get hd
    exact ⟨xs, v, SqL.of (b _ _ (a1 _ _ e)), hv⟩
  · obtain ⟨d, hd⟩ := lt_get h
    obtain ⟨v, hv, rv⟩ := r.get hd
    obtain ⟨rfl, y2⟩ := y
    have := y2 xs (SqL.of (b _ _ (a1 _ _ e)))
    rw [hv] at this
    cases this
    exact ⟨F2, d, Step.refl b, hd, rv.mono a1⟩
theorem wk_tup {a : Addr} {xs : List V} {ds : List D} (e : F a = some (.tup xs)) (r : Rps F xs ds) : Wk K F (Itt K a) ds := by
  refine ⟨fun F2 H i a1 b h => ?_, fun F2 H a1 b => ⟨xs, SqT.of (b _ _ (a1 _ _ e)), by rw [r.len]; exact Nat.le_refl _⟩, fun F2 H i x H' a1 b h y => ?_⟩
  · obtain ⟨d, hd⟩ := lt_get h
    obtain ⟨v, hv, _⟩ := r.get hd
    exact ⟨xs, v, SqT.of (b _ _ (a1 _ _ e)), hv⟩
  · obtain ⟨d, hd⟩ := lt_get h
    obtain ⟨v, hv, rv⟩ := r.get hd
    obtain ⟨rfl, y2⟩ := y
    have := y2 xs (SqT.of (b _ _ (a1 _ _ e)))
    rw [hv] at this
    cases this
    exact ⟨F2, d, Step.refl b, hd, rv.mono a1⟩
theorem rangeD_len : ∀ (lo : Int) (n : Nat), (rangeD lo n).length = n
  | _, 0 => rfl
  | lo, n + 1 => by simp [rangeD, rangeD_len (lo + 1) n]
theorem rangeD_get : ∀ (lo : Int) (n i : Nat), i < n → (rangeD lo n)[i]? = some (.int (lo + i))
  | _, 0, _, h => by omega
  | lo, n + 1, 0, h => by simp [rangeD]
  | lo, n + 1, i + 1, h => by
    simp only [rangeD, List.getElem?_cons_succ]
    rw [rangeD_get (lo + 1) n i (by omega)]
    congr 2
    push_cast
    omega
theorem rangeC_len : ∀ (lo c : Int) (n : Nat), (rangeC lo c n).length = n
  | _, _, 0 => rfl
  | lo, c, n + 1 => by simp [rangeC, rangeC_len (lo + c) c n]
theorem rangeC_get : ∀ (lo c : Int) (n i : Nat), i < n → (rangeC lo c n)[i]? = some (.int (lo + (i : Nat) * c))
  | _, _, 0, _, h => by omega
  | lo, c, n + 1, 0, h => by simp [rangeC]
  | lo, c, n + 1, i + 1, h => by
    simp only [rangeC, List.getElem?_cons_succ]
    rw [rangeC_get (lo + c) c n i (by omega)]
    congr 2
    push_cast
    rw [Int.add_mul, Int.one_mul]
    omega
theorem wk_range {lo : Int} {n : Nat} : Wk K F (Itr lo n) (rangeD lo n) := by
  refine ⟨fun F2 H i a1 b h => by rw [rangeD_len] at h; exact h, fun F2 H a1 b => by rw [rangeD_len]; exact Nat.le_refl _, fun F2 H i x H' a1 b h y => ?_⟩
  rw [rangeD_len] at h
  obtain ⟨rfl, rfl⟩ := y
  exact ⟨F2, _, Step.refl b, rangeD_get lo n i h, .int _⟩
theorem wk_rangeC {lo c : Int} {n : Nat} : Wk K F (Itc lo c n) (rangeC lo c n) := by
  refine ⟨fun F2 H i a1 b h => by rw [rangeC_len] at h; exact h, fun F2 H a1 b => by rw [rangeC_len]; exact Nat.le_refl _, fun F2 H i x H' a1 b h y => ?_⟩
  rw [rangeC_len] at h
  obtain ⟨rfl, rfl⟩ := y
  exact ⟨F2, _, Step.refl b, rangeC_get lo c n i h, .int _⟩
theorem enumD_len : ∀ (k : Nat) (ds : List D), (enumD k ds).length = ds.length
  | _, [] => rfl
  | k, d :: ds => by simp [enumD, enumD_len (k + 1) ds]
theorem enumD_get : ∀ (k : Nat) (ds : List D) (i : Nat) (d : D), ds[i]? = some d → (enumD k ds)[i]? = some (.tuple [.int ((k + i : Nat) : Int), d])
  | _, [], _, _, h => by simp at h
  | k, x :: ds, 0, d, h => by simp at h; subst h; simp [enumD]
  | k, x :: ds, i + 1, d, h => by
    simp only [enumD, List.getElem?_cons_succ] at h ⊢
    rw [enumD_get (k + 1) ds i d h]
    congr 5
    omega
theorem wk_enum {a : Addr} {xs : List V} {ds : List D} (e : F a = some (.lst xs)) (r : Rps F xs ds) : Wk K F (Ite K a) (enumD 0 ds) := by
  refine ⟨fun F2 H i a1 b h => ?_, fun F2 H a1 b => ⟨xs, SqL.of (b _ _ (a1 _ _ e)), by rw [enumD_len, r.len]; exact Nat.le_refl _⟩, fun F2 H i x H' a1 b h y => ?_⟩
  · rw [enumD_len] at h
    obtain ⟨d, hd⟩ := lt_get h
    obtain ⟨v, hv, _⟩ := r.get hd
    exact ⟨xs, v, SqL.of (b _ _ (a1 _ _ e)), hv⟩
  · rw [enumD_len] at h
    obtain ⟨d, hd⟩ := lt_get h
    obtain ⟨v, hv, rv⟩ := r.get hd
    obtain ⟨T, x', rfl, hT, rfl, y2⟩ := y
    have := y2 xs (SqL.of (b _ _ (a1 _ _ e)))
    rw [hv] at this
    cases this
    have st := Step.newF (o := .tup [.int (i : Nat), v]) b hT (f := []) (by simp)
    refine ⟨_, _, st, enumD_get 0 ds i d hd, .tup upd_same (.cons ?_ (.cons ((rv.mono a1).mono st.ff) .nil))⟩
    rw [Nat.zero_add]
    exact .int _
theorem zipD_len : ∀ (xs ys : List D), (zipD xs ys).length = min xs.length ys.length
  | [], _ => by simp [zipD]
  | _ :: _, [] => by simp [zipD]
  | x :: xs, y :: ys => by
    simp only [zipD, List.length_cons, zipD_len xs ys]
    omega
theorem zipD_get : ∀ (xs ys : List D) (i : Nat) (d e : D), xs[i]? = some d → ys[i]? = some e → (zipD xs ys)[i]? = some (.tuple [d, e])
  | [], _, _, _, _, h, _ => by simp at h
  | _ :: _, [], _, _, _, _, h => by simp at h
  | x :: xs, y :: ys, 0, d, e, h1, h2 => by simp at h1 h2; subst h1 h2; simp [zipD]
  | x :: xs, y :: ys, i + 1, d, e, h1, h2 => by
    simp only [zipD, List.getElem?_cons_succ] at h1 h2 ⊢
    exact zipD_get xs ys i d e h1 h2
theorem wk_zip {a b : Addr} {xs ys : List V} {ds es : List D} (e : F a = some (.lst xs)) (r : Rps F xs ds) (e2 : F b = some (.lst ys)) (r2 : Rps F ys es) : Wk K F (Itz K a b) (zipD ds es) := by
  refine ⟨fun F2 H i a1 b1 h => ?_, fun F2 H a1 b1 => ⟨xs, ys, SqL.of (b1 _ _ (a1 _ _ e)), SqL.of (b1 _ _ (a1 _ _ e2)), by rw [zipD_len, r.len, r2.len]; omega⟩, fun F2 H i x H' a1 b1 h y => ?_⟩
  · rw [zipD_len] at h
    obtain ⟨d, hd⟩ := lt_get (ds := ds) (i := i) (by omega)
    obtain ⟨v, hv, _⟩ := r.get hd
    obtain ⟨d2, hd2⟩ := lt_get (ds := es) (i := i) (by omega)
    obtain ⟨v2, hv2, _⟩ := r2.get hd2
    exact ⟨xs, ys, v, v2, SqL.of (b1 _ _ (a1 _ _ e)), SqL.of (b1 _ _ (a1 _ _ e2)), hv, hv2⟩
  · rw [zipD_len] at h
    obtain ⟨d, hd⟩ := lt_get (ds := ds) (i := i) (by omega)
    obtain ⟨v, hv, rv⟩ := r.get hd
    obtain ⟨d2, hd2⟩ := lt_get (ds := es) (i := i) (by omega)
    obtain ⟨v2, hv2, rv2⟩ := r2.get hd2
    obtain ⟨T, x', y', rfl, hT, rfl, y1, y2⟩ := y
    have := y1 xs (SqL.of (b1 _ _ (a1 _ _ e)))
    rw [hv] at this
    cases this
    have := y2 ys (SqL.of (b1 _ _ (a1 _ _ e2)))
    rw [hv2] at this
    cases this
    have st := Step.newF (o := .tup [v, v2]) b1 hT (f := []) (by simp)
    exact ⟨_, _, st, zipD_get ds es i d d2 hd hd2, .tup upd_same (.cons ((rv.mono a1).mono st.ff) (.cons ((rv2.mono a1).mono st.ff) .nil))⟩
theorem wk_zipT {a b : Addr} {xs ys : List V} {ds es : List D} (e : F a = some (.tup xs)) (r : Rps F xs ds) (e2 : F b = some (.tup ys)) (r2 : Rps F ys es) : Wk K F (RZ.ItzT K a b) (zipD ds es) := by
  refine ⟨fun F2 H i a1 b1 h => ?_, fun F2 H a1 b1 => ⟨xs, ys, SqT.of (b1 _ _ (a1 _ _ e)), SqT.of (b1 _ _ (a1 _ _ e2)), by rw [zipD_len, r.len, r2.len]; omega⟩, fun F2 H i x H' a1 b1 h y => ?_⟩
  · rw [zipD_len] at h
    obtain ⟨d, hd⟩ := lt_get (ds := ds) (i := i) (by omega)
    obtain ⟨v, hv, _⟩ := r.get hd
    obtain ⟨d2, hd2⟩ := lt_get (ds := es) (i := i) (by omega)
    obtain ⟨v2, hv2, _⟩ := r2.get hd2
    exact ⟨xs, ys, v, v2, SqT.of (b1 _ _ (a1 _ _ e)), SqT.of (b1 _ _ (a1 _ _ e2)), hv, hv2⟩
  · rw [zipD_len] at h
    obtain ⟨d, hd⟩ := lt_get (ds := ds) (i := i) (by omega)
    obtain ⟨v, hv, rv⟩ := r.get hd
    obtain ⟨d2, hd2⟩ := lt_get (ds := es) (i := i) (by omega)
    obtain ⟨v2, hv2, rv2⟩ := r2.get hd2
    obtain ⟨T, x', y', rfl, hT, rfl, y1, y2⟩ := y
    have := y1 xs (SqT.of (b1 _ _ (a1 _ _ e)))
    rw [hv] at this
    cases this
    have := y2 ys (SqT.of (b1 _ _ (a1 _ _ e2)))
    rw [hv2] at this
    cases this
    have st := Step.newF (o := .tup [v, v2]) b1 hT (f := []) (by simp)
    exact ⟨_, _, st, zipD_get ds es i d d2 hd hd2, .tup upd_same (.cons ((rv.mono a1).mono st.ff) (.cons ((rv2.mono a1).mono st.ff) .nil))⟩
end
def SSrc (X : Cx) (tg e : Expr) (m : S → Option (List D × S)) : Prop := ∀ (σ : L2.St) (s : S) (F H : Hp) (f : List Addr) (ds : List D) (s' : S) (R : It → Hp → Prop), Rel X.K F H σ s f → m s = some (ds, s') →
  (∀ J F' H' h, Step F H f F' H' h → Rel X.K F' H' σ s' h → Wk X.K F' J ds → R J H') → iW X tg e σ H R
section
variable {P : Prg} {k : Nat} {c : CK} {X : Cx} {a b d tg : Expr} {ma mb md : S → Option (T × S)} {pos p : Pos} {x : Str}
theorem ss_seq (h : SE X a ma) : SSrc X tg a fun s => bnd (dOf (ma s)) fun d s => (seqD d).map fun ds => (ds, s) := fun σ s F H f ds s' R r em q => by
  obtain ⟨d, s1, e1, em⟩ := bnd_eq em
  obtain ⟨xs, e2, e3⟩ := Option.map_eq_some_iff.mp em
  cases e3
  cases d <;> try (cases e2; done)
  · cases e2
    refine iW.of (pi_list pe_w) (h.d σ s F H f _ _ _ r e1 fun v F1 H1 h1 p1 => ?_)
    have rp := p1.rp
    cases rp with
    | lst ea rs => exact ⟨_, rfl, ⟨_, SqL.of (p1.rel.same _ _ ea)⟩, q _ F1 H1 h1 p1.step p1.rel (wk_list ea rs)⟩
  · cases e2
    refine iW.of (pi_tup pe_w) (h.d σ s F H f _ _ _ r e1 fun v F1 H1 h1 p1 => ?_)
    have rp := p1.rp
    cases rp with
    | tup ea rs => exact ⟨_, rfl, ⟨_, SqT.of (p1.rel.same _ _ ea)⟩, q _ F1 H1 h1 p1.step p1.rel (wk_tup ea rs)⟩
theorem small_eq {i : Int} (h : smallI i = true) : -(2 ^ 62) ≤ i ∧ i < 2 ^ 62 := by
  unfold smallI at h
  simp only [Bool.and_eq_true, decide_eq_true_eq] at h
  exact ⟨by omega, by omega⟩
theorem ss_rng1 (G : Good P k c X) (hx : x = "range") (hf : frB c x = true) (hp : plainX a = true) (h : SE X a ma) :
    SSrc X tg (.Call (.Name x p) [a] [] pos) fun s => bnd (dOf (ma s)) fun x s => (asInt x).bind fun i => if smallI i then some (rangeD 0 i.toNat, s) else none := fun σ s F H f ds s' R r em q => by
  subst hx
  obtain ⟨d, s1, e1, em⟩ := bnd_eq em
  obtain ⟨i, e2, em⟩ := Option.bind_eq_some_iff.mp em
  split at em
  · rename_i hs
    cases em
    have := asInt_eq e2
    subst this
    obtain ⟨g1, g2, _, _⟩ := G.fr hf
    refine iW.of (pi_range1 g1 g2 pa_w (star_cons hp [] X.env)) (aW.of (pa_cons pe_w pa_nil (star_cons hp [] X.env)) (h.d σ s F H f _ _ _ r e1 fun v F1 H1 h1 p1 => ?_))
    have rp := p1.rp
    cases rp
    obtain ⟨z1, z2⟩ := small_eq hs
    exact ⟨i, rfl, z1, z2, q _ F1 H1 h1 p1.step p1.rel wk_range⟩
  · cases em
theorem ss_rng2 (G : Good P k c X) (hx : x = "range") (hf : frB c x = true) (hp : plainX a = true) (hp2 : plainX b = true) (h : SE X a ma) (h2 : SE X b mb) :
    SSrc X tg (.Call (.Name x p) [a, b] [] pos) fun s => bnd (dOf (ma s)) fun x s => bnd (dOf (mb s)) fun y s => (asInt x).bind fun i => (asInt y).bind fun j => if smallI i && smallI j then some (rangeD i (j - i).toNat, s) else none := fun σ s F H f ds s' R r em q => by
  subst hx
  obtain ⟨d, s1, e1, em⟩ := bnd_eq em
  obtain ⟨d2, s2, e1', em⟩ := bnd_eq em
  obtain ⟨i, e2, em⟩ := Option.bind_eq_some_iff.mp em
  obtain ⟨j, e3, em⟩ := Option.bind_eq_some_iff.mp em
  split at em
  · rename_i hs
    cases em
    have := asInt_eq e2
    subst this
    have := asInt_eq e3
    subst this
    rw [Bool.and_eq_true] at hs
    obtain ⟨g1, g2, _, _⟩ := G.fr hf
    refine iW.of (pi_range2 g1 g2 pa_w (by rw [star_cons hp, star_cons hp2]; rfl) (star_cons hp2 [] X.env)) (aW.of (pa_cons pe_w (pa_cons pe_w pa_nil (star_cons hp2 [] X.env)) (star_cons hp _ X.env)) (h.d σ s F H f _ _ _ r e1 fun v F1 H1 h1 p1 => h2.d σ _ F1 H1 h1 _ _ _ p1.rel e1' fun w F2 H2 h2 p2 => ?_))
    obtain ⟨p3, rv⟩ := p1.onD p2
    cases rv
    have rp := p3.rp
    cases rp
    obtain ⟨z1, z2⟩ := small_eq hs.1
    obtain ⟨z3, z4⟩ := small_eq hs.2
    exact ⟨i, j, rfl, ⟨z1, z2, z3, z4⟩, q _ F2 H2 h2 p3.step p3.rel wk_range⟩
  · cases em
theorem ss_rng3 (G : Good P k c X) (hx : x = "range") (hf : frB c x = true) (hp : plainX a = true) (hp2 : plainX b = true) (hp3 : plainX d = true) (h : SE X a ma) (h2 : SE X b mb) (h3 : SE X d md) :
    SSrc X tg (.Call (.Name x p) [a, b, d] [] pos) fun s => bnd (dOf (ma s)) fun x s => bnd (dOf (mb s)) fun y s => bnd (dOf (md s)) fun z s => (asInt x).bind fun i => (asInt y).bind fun j => (asInt z).bind fun k =>
      if rangeOk i j k then some (rangeC i k (rangeN i j k), s) else none := fun σ s F H f ds s' R r em q => by
  subst hx
  obtain ⟨d, s1, e1, em⟩ := bnd_eq em
  obtain ⟨d2, s2, e1', em⟩ := bnd_eq em
  obtain ⟨d3, s3, e1'', em⟩ := bnd_eq em
  obtain ⟨i, e2, em⟩ := Option.bind_eq_some_iff.mp em
  obtain ⟨j, e3, em⟩ := Option.bind_eq_some_iff.mp em
  obtain ⟨l, e4, em⟩ := Option.bind_eq_some_iff.mp em
  split at em
  · rename_i hs
    cases em
    have := asInt_eq e2
    subst this
    have := asInt_eq e3
    subst this
    have := asInt_eq e4
    subst this
    obtain ⟨g1, g2, _, _⟩ := G.fr hf
    refine iW.of (pi_range3 g1 g2 pa_w (star_cons hp _ X.env) (star_any (by simp [hp2, hp3]) pos X.env)) (aW.of (pa_cons pe_w (pa_cons pe_w (pa_cons pe_w pa_nil (star_cons hp3 [] X.env)) (star_cons hp2 _ X.env)) (star_cons hp _ X.env))
      (h.d σ s F H f _ _ _ r e1 fun v F1 H1 h1 p1 => h2.d σ _ F1 H1 h1 _ _ _ p1.rel e1' fun w F2 H2 h2 p2 => h3.d σ _ F2 H2 h2 _ _ _ p2.rel e1'' fun z F3 H3 h3 p3 => ?_))
    have rv := p1.rp
    cases rv
    have rv := p2.rp
    cases rv
    have rv := p3.rp
    cases rv
    unfold rangeOk at hs
    simp only [Bool.and_eq_true, decide_eq_true_eq] at hs
    exact ⟨i, j, l, rangeN i j l, rfl, ⟨hs.1.1.1, hs.1.1.2, hs.1.2, by unfold rangeN; omega⟩, q _ F3 H3 h3 (p1.step.trans (p2.step.trans p3.step)) p3.rel wk_rangeC⟩
  · cases em
theorem ss_enum (G : Good P k c X) (hx : x = "enumerate") (hf : frB c x = true) (hp : plainX a = true) (ht : isTupX tg = true) (h : SE X a ma) :
    SSrc X tg (.Call (.Name x p) [a] [] pos) fun s => bnd (dOf (ma s)) fun d s => (listD d).map fun ds => (enumD 0 ds, s) := fun σ s F H f ds s' R r em q => by
  subst hx
  obtain ⟨d, s1, e1, em⟩ := bnd_eq em
  obtain ⟨xs, e2, e3⟩ := Option.map_eq_some_iff.mp em
  cases e3
  cases tg <;> try (cases ht; done)
  obtain ⟨g1, g2, _, _⟩ := G.fr hf
  cases d <;> try (cases e2; done)
  cases e2
  refine iW.of (pi_enum g1 g2 pa_w (star_cons hp [] X.env)) (aW.of (pa_cons pe_w pa_nil (star_cons hp [] X.env)) (h.d σ s F H f _ _ _ r e1 fun v F1 H1 h1 p1 => ?_))
  have rp := p1.rp
  cases rp with
  | lst ea rs => exact ⟨_, _, rfl, SqL.of (p1.rel.same _ _ ea), q _ F1 H1 h1 p1.step p1.rel (wk_enum ea rs)⟩
theorem ss_zip (G : Good P k c X) (hx : x = "zip") (hf : frB c x = true) (hp : plainX a = true) (hp2 : plainX b = true) (ht : isTupX tg = true) (h : SE X a ma) (h2 : SE X b mb) :
    SSrc X tg (.Call (.Name x p) [a, b] [] pos) fun s => bnd (dOf (ma s)) fun x s => bnd (dOf (mb s)) fun y s => (zipSrc x y).map fun ds => (ds, s) := fun σ s F H f ds s' R r em q => by
  subst hx
  obtain ⟨d, s1, e1, em⟩ := bnd_eq em
  obtain ⟨d2, s2, e1', em⟩ := bnd_eq em
  obtain ⟨zs, e2, e3⟩ := Option.map_eq_some_iff.mp em
  cases e3
  cases tg <;> try (cases ht; done)
  obtain ⟨g1, g2, _, _⟩ := G.fr hf
  refine iW.of (RZ.pi_zipA g1 g2 pa_w (star_cons hp _ X.env) (star_any (by simp [hp2]) pos X.env)) (aW.of (pa_cons pe_w (pa_cons pe_w pa_nil (star_cons hp2 [] X.env)) (star_cons hp _ X.env)) (h.d σ s F H f _ _ _ r e1 fun v F1 H1 h1 p1 => h2.d σ _ F1 H1 h1 _ _ _ p1.rel e1' fun w F2 H2 h2 p2 => ?_))
  obtain ⟨p3, rv⟩ := p1.onD p2
  have rw' := p3.rp
  unfold zipSrc at e2
  split at e2
  · cases e2
    cases rv with
    | lst ea ra =>
      cases rw' with
      | lst eb rb => exact ⟨_, _, _, _, rfl, .inl ⟨SqL.of (p3.rel.same _ _ ea), SqL.of (p3.rel.same _ _ eb), q _ F2 H2 h2 p3.step p3.rel (wk_zip ea ra eb rb)⟩⟩
  · cases e2
    cases rv with
    | tup ea ra =>
      cases rw' with
      | tup eb rb => exact ⟨_, _, _, _, rfl, .inr ⟨SqT.of (p3.rel.same _ _ ea), SqT.of (p3.rel.same _ _ eb), q _ F2 H2 h2 p3.step p3.rel (wk_zipT ea ra eb rb)⟩⟩
  · cases e2
end
end Eng

/-! ### Eng20 -/
/-! Eng20: targets. -/
namespace Eng
open PySem PySem.Spec PyProof.Rows L2
/-- the slots outside ix stay -/
def Out (ix : List Nat) (σ σ' : L2.St) : Prop := σ'.length = σ.length ∧ ∀ j, j ∉ ix → σ'[j]? = σ[j]?
theorem Out.refl (ix : List Nat) (σ : L2.St) : Out ix σ σ := ⟨rfl, fun _ _ => rfl⟩
theorem Out.trans {ix : List Nat} {σ σ1 σ2 : L2.St} (a : Out ix σ σ1) (b : Out ix σ1 σ2) : Out ix σ σ2 := ⟨b.1.trans a.1, fun j h => (b.2 j h).trans (a.2 j h)⟩
theorem Out.mono {ix jx : List Nat} {σ σ1 : L2.St} (a : Out ix σ σ1) (h : ∀ j ∈ ix, j ∈ jx) : Out jx σ σ1 := ⟨a.1, fun j n => a.2 j fun m => n (h j m)⟩
theorem Out.set (i : Nat) (x : Option V) (σ : L2.St) : Out [i] σ (σ.set i x) := ⟨List.length_set, fun j h => List.getElem?_set_ne (by simpa using Ne.symm (by simpa using h : j ≠ i))⟩
/-- a store: of a value with what it owns -/
def SG (X : Cx) (tg : Expr) (ix : List Nat) (m : T → S → Option S) : Prop := ∀ (σ : L2.St) (s : S) (F H : Hp) (f g : List Addr) (v : V) (t : T) (s' : S) (Q : L2.St → Hp → Prop), Same F H → Own X.K F H v t g → Sls X.K F H σ s f → (g ++ f).Nodup → m t s = some s' →
  (∀ σ' F' H' h, Step F H (g ++ f) F' H' h → Rel X.K F' H' σ' s' h → Out ix σ σ' → Q σ' H') → gW X tg v σ H Q
def SGs (X : Cx) (tgs : List Expr) (ix : List Nat) (m : List D → S → Option S) : Prop := ∀ (σ : L2.St) (s : S) (F H : Hp) (f : List Addr) (vs : List V) (ds : List D) (s' : S) (Q : L2.St → Hp → Prop), Rel X.K F H σ s f → Rps F vs ds → m ds s = some s' →
  (∀ σ' F' H' h, Step F H f F' H' h → Rel X.K F' H' σ' s' h → Out ix σ σ' → Q σ' H') → gsW X tgs vs σ H Q
section
variable {P : Prg} {k : Nat} {c : CK} {X : Cx} {F H : Hp} {σ : L2.St} {s : S} {f : List Addr}
theorem set_off {α : Type} {l : List α} {i : Nat} {x : α} (h : ¬ i < l.length) : l.set i x = l := List.set_eq_of_length_le (by omega)
/-- a value into a slot -/
theorem Sls.store {K : PySem.W.Frag} {i : Nat} {v : V} {t : T} {g : List Addr} (sl : Sls K F H σ s f) (o : Own K F H v t g) (nd : (g ++ f).Nodup) : ∃ h, Sls K F H (σ.set i (some v)) (s.set i (some t)) h ∧ (∀ a ∈ h, a ∈ g ++ f) ∧ h.Nodup := by
  by_cases hl : i < s.length
  · obtain ⟨r, g0, q1, q2⟩ := sl.drop i (some v)
    have q3 := q1.put getS_set_none (by rw [List.length_set]; exact hl) o
    rw [List.set_set, List.set_set] at q3
    refine ⟨g ++ r, q3, fun a m => ?_, ?_⟩
    · rcases List.mem_append.mp m with m | m
      · exact List.mem_append_left _ m
      · exact List.mem_append_right _ (q2.mem_iff.mpr (List.mem_append_right _ m))
    · refine nd_app (List.nodup_append.mp nd).1 (List.nodup_append.mp (q2.nodup_iff.mp (List.nodup_append.mp nd).2.1)).2.1 fun b m z => ?_
      exact nd_apart' nd b m (q2.mem_iff.mpr (List.mem_append_right _ z))
  · rw [set_off hl, set_off (by rw [sl.len]; exact hl)]
    exact ⟨f, sl, fun a m => List.mem_append_right _ m, (List.nodup_append.mp nd).2.1⟩
theorem sg_nm (G : Good P k c X) {i : Nat} {x : Str} {pos : Pos} (h : tgB c i x = true) : SG X (.Name x pos) [i] fun t s => some (s.set i (some t)) := fun σ s F H f g v t s' Q sm o sl nd em q => by
  cases em
  obtain ⟨h1, z1, z2, z3⟩ := Sls.store (i := i) sl o nd
  exact gW.of (G.tg h).1 (q _ F H h1 ((Step.refl (f := g ++ f) sm).mono (fun b m => m) z2) ⟨sm, z1, z3⟩ (Out.set i _ σ))
theorem ass_cons {e : Expr} (h : plainX e = true) (es : List Expr) (env : Env) : assignEach (e :: es) env = (false, assign e env) :: assignEach es env := by
  cases e <;> first | rfl | cases h
theorem ass_len {es : List Expr} (h : es.all plainX = true) (env : Env) : (assignEach es env).length = es.length ∧ (assignEach es env).findIdx? (·.1) = none := by
  induction es with
  | nil => exact ⟨rfl, rfl⟩
  | cons e es ih =>
    rw [List.all_cons, Bool.and_eq_true] at h
    rw [ass_cons h.1]
    obtain ⟨h1, h2⟩ := ih h.2
    refine ⟨by simp [h1], ?_⟩
    rw [List.findIdx?_cons]
    simp [h2]
theorem sgs_nil : SGs X [] [] fun ds s => match ds with
    | [] => some s
    | _ => none := fun σ s F H f vs ds s' Q r rp em q => by
  cases rp with
  | nil =>
    cases em
    exact gsW.of pgs_nil ⟨rfl, q σ F H f (Step.refl r.same) r (Out.refl _ _)⟩
  | cons a b => cases em
theorem sgs_cons {e : Expr} {es : List Expr} {ix jx : List Nat} {m1 : T → S → Option S} {m2 : List D → S → Option S} (hp : plainX e = true) (h1 : SG X e ix m1) (h2 : SGs X es jx m2) : SGs X (e :: es) (ix ++ jx) fun ds s => match ds with
    | d :: ds => (m1 (.dat d) s).bind fun s => m2 ds s
    | _ => none := fun σ s F H f vs ds s' Q r rp em q => by
  cases rp with
  | nil => cases em
  | @cons v vs d ds rv rs =>
    obtain ⟨s1, e1, e2⟩ := Option.bind_eq_some_iff.mp em
    refine gsW.of (pgs_cons pg_w pgs_w (by rw [ass_cons hp]; rfl)) ⟨v, vs, rfl, h1 σ s F H f [] v (.dat d) s1 _ r.same (.dat rv) r.sl (by simpa using r.nd) e1 fun σ1 F1 H1 f1 st r1 o1 => ?_⟩
    exact h2 σ1 s1 F1 H1 f1 vs ds s' Q r1 (rs.mono st.ff) e2 fun σ2 F2 H2 f2 st2 r2 o2 => q σ2 F2 H2 f2 ((by simpa using st : Step F H f F1 H1 f1).trans st2) r2 ((o1.mono fun j m => List.mem_append_left _ m).trans (o2.mono fun j m => List.mem_append_right _ m))
theorem sg_tp (G : Good P k c X) {es : List Expr} {kk : Nat} {pos : Pos} {ix : List Nat} {m : List D → S → Option S} (hp : es.all plainX = true) (hl : ∀ ds s s', m ds s = some s' → ds.length = es.length) (h : SGs X es ix m) : SG X (.Tuple es kk pos) ix fun t s => match t with
    | .dat (.tuple ds) => m ds s
    | _ => none := fun σ s F H f g v t s' Q sm o sl nd em q => by
  dsimp only at em
  split at em
  · rename_i ds
    obtain ⟨hg, rp⟩ := o.dat_inv
    subst hg
    cases rp with
    | @tup a xs ds ea rs =>
      refine gW.of (pg_tup (n := es.length) G.calm pgs_w (ass_len hp _).1 (ass_len hp _).2) ⟨a, xs, rfl, SqT.of (sm _ _ ea), by rw [rs.len]; exact hl ds s s' em, ?_⟩
      exact h σ s F H f xs ds s' Q ⟨sm, sl, by simpa using nd⟩ rs em fun σ1 F1 H1 f1 st r1 o1 => q σ1 F1 H1 f1 (by simpa using st) r1 o1
  · cases em

/-! ### o[i] = v -/
theorem KVs.mapP {κ : Type} [DecidableEq κ] {kvs' : List (κ × V)} {kvs : List (κ × D)} (r : KVs F kvs' kvs) (key : κ) {v : V} {d : D} (rv : Rp F v d) : KVs F (kvs'.map fun kv => if kv.1 = key then (kv.1, v) else kv) (kvs.map fun kv => if kv.1 = key then (kv.1, d) else kv) := by
  unfold KVs at r ⊢
  induction r with
  | nil => exact .nil
  | @cons p q ps qs h t ih =>
    rw [List.map_cons, List.map_cons]
    refine .cons ?_ ih
    by_cases e : p.1 = key
    · rw [if_pos e, if_pos (h.1 ▸ e)]
      exact ⟨h.1, rv⟩
    · rw [if_neg e, if_neg (h.1 ▸ e)]
      exact h
theorem KVs.snoc {κ : Type} {kvs' : List (κ × V)} {kvs : List (κ × D)} (r : KVs F kvs' kvs) (key : κ) {v : V} {d : D} (rv : Rp F v d) : KVs F (kvs' ++ [(key, v)]) (kvs ++ [(key, d)]) := by
  unfold KVs at r ⊢
  induction r with
  | nil => exact .cons ⟨rfl, rv⟩ .nil
  | cons h t ih => exact .cons h ih
theorem KVs.any {κ : Type} [DecidableEq κ] {kvs' : List (κ × V)} {kvs : List (κ × D)} (r : KVs F kvs' kvs) (key : κ) : (kvs'.any fun kv => decide (kv.1 = key)) = (kvs.any fun kv => decide (kv.1 = key)) := by
  unfold KVs at r
  induction r with
  | nil => rfl
  | @cons p q ps qs h t ih => rw [List.any_cons, List.any_cons, ih, h.1]
theorem KVs.put {κ : Type} [DecidableEq κ] {kvs' : List (κ × V)} {kvs : List (κ × D)} (r : KVs F kvs' kvs) (key : κ) {v : V} {d : D} (rv : Rp F v d) : KVs F (putK kvs' key v) (putD kvs key d) := by
  unfold putK putD
  rw [r.any key]
  split
  · exact r.mapP key rv
  · exact r.snoc key rv
theorem KVs.len {κ : Type} {kvs' : List (κ × V)} {kvs : List (κ × D)} (r : KVs F kvs' kvs) : kvs'.length = kvs.length := by
  unfold KVs at r
  induction r with
  | nil => rfl
  | cons h t ih => simp [ih]
/-- the store itself -/
theorem store_ok {K : PySem.W.Frag} {w x v : V} {t t' u : T} {d : D} {g gv : List Addr} (s : Same F H) (o : Own K F H w t g) (rx : Rp F x d) (ov : Own K F H v u gv) (nd : (g ++ gv).Nodup) (e : storeT t d u = some t') {Q : Hp → Prop}
    (q : ∀ F' H' g', Step F H (g ++ gv) F' H' g' → Own K F' H' w t' g' → g'.Nodup → Q H') : if isDct t = true then rSetD w x v H Q else rSetL w x v H Q := by
  cases o with
  | dat r => simp [storeT] at e
  | @lst a vs ts f0 ea n os =>
    rw [show isDct (T.lst ts) = false from rfl, if_neg Bool.false_ne_true]
    cases rx with
    | int kk =>
      simp only [storeT, ixO] at e
      obtain ⟨j, e1, e2⟩ := Option.map_eq_some_iff.mp e
      subst e2
      rw [← os.len] at e1
      refine ⟨a, vs, kk, j, rfl, rfl, ea, e1, ?_⟩
      obtain ⟨t0, ht0⟩ : ∃ t0, ts[j]? = some t0 := by
        obtain ⟨_, h1, _, _⟩ := L2.ixN_seq e1
        exact ⟨ts[j]'(by rw [← os.len]; exact h1), List.getElem?_eq_getElem _⟩
      obtain ⟨v0, g0, h0, q1, q2, q3, q4⟩ := os.take ht0
      rw [List.cons_append] at nd
      have nd2 := (List.nodup_cons.mp nd)
      have na : a ∉ gv ++ h0 := fun z => nd2.1 (by
        rcases List.mem_append.mp z with z | z
        · exact List.mem_append_right _ z
        · exact List.mem_append_left _ (q3.mem_iff.mpr (List.mem_append_right _ z)))
      have kp : Keeps F H F (upd H a (.lst (vs.set j v))) h0 := ⟨Same.refl _, fun b m => ⟨upd_ne (fun z => na (List.mem_append_right _ (z ▸ m))), (os.has b (q3.mem_iff.mpr (List.mem_append_right _ m))).1⟩⟩
      obtain ⟨f', y1, y2⟩ := q4 kp (mulO (w := .lst (vs.set j v)) ov fun z => na (List.mem_append_left _ z))
      have ndh : (gv ++ h0).Nodup := by
        have a1 := (List.nodup_append.mp nd2.2)
        exact nd_app a1.2.1 (List.nodup_append.mp (q3.nodup_iff.mp a1.1)).2.1 fun b m z => nd_apart nd2.2 b m (q3.mem_iff.mpr (List.mem_append_right _ z))
      refine q F _ (a :: f') ((Step.set s (by simp) n).mono (fun b m => m) fun b m => ?_) (.lst upd_same n y1) (List.nodup_cons.mpr ⟨fun z => na (y2.mem_iff.mp z), y2.nodup_iff.mpr ndh⟩)
      rcases List.mem_cons.mp m with rfl | m
      · simp
      · rcases List.mem_append.mp (y2.mem_iff.mp m) with m | m
        · exact List.mem_append_right _ m
        · exact List.mem_append_left _ (List.mem_cons_of_mem _ (q3.mem_iff.mpr (List.mem_append_right _ m)))
    | _ => simp [storeT] at e
  | @dK a kvs' kvs ea n rk =>
    rw [if_pos (show isDct (T.dK false kvs) = true from rfl)]
    cases u <;> try (simp [storeT] at e; done)
    simp only [storeT] at e
    obtain ⟨kk, e1, e2⟩ := Option.bind_eq_some_iff.mp e
    split at e2
    · rename_i hl
      cases e2
      obtain ⟨hg, rv⟩ := ov.dat_inv
      subst hg
      have hx := key_of' rx e1
      subst hx
      refine ⟨a, _, rfl, DPut.k ea (by rw [rk.len]; exact line_lt hl), q F _ [a] ((Step.set s (by simp) n).mono (fun b m => m) fun b m => by simpa using m) (.dK upd_same n (rk.put kk rv)) (by simp)⟩
    · cases e2
  | dKf ea rk => simp [storeT] at e
  | @dT a kvs' kvs ea n rk =>
    rw [if_pos (show isDct (T.dT false kvs) = true from rfl)]
    cases u <;> try (cases rx <;> simp [storeT] at e; done)
    cases rx with
    | tup eb rs =>
      simp only [storeT] at e
      obtain ⟨kk, e1, e2⟩ := Option.bind_eq_some_iff.mp e
      split at e2
      · rename_i hl
        cases e2
        obtain ⟨hg, rv⟩ := ov.dat_inv
        subst hg
        have hx := keys_of' rs e1
        subst hx
        refine ⟨a, _, rfl, DPut.t ea (s _ _ eb) (by rw [rk.len]; exact line_lt hl), q F _ [a] ((Step.set s (by simp) n).mono (fun b m => m) fun b m => by simpa using m) (.dT upd_same n (rk.put kk rv)) (by simp)⟩
      · cases e2
    | _ => simp [storeT] at e
  | dTf ea rk => cases rx <;> simp [storeT] at e
  | scr _ => simp [storeT] at e
theorem storeAt_eq {p : Pl} {d : D} {u : T} {s s' : S} (e : storeAt p d u s = some s') : ∃ t t', p.at s = some t ∧ storeT t d u = some t' ∧ p.put s t' = some s' := by
  unfold storeAt at e
  obtain ⟨t, h1, e⟩ := Option.bind_eq_some_iff.mp e
  obtain ⟨t', h2, e⟩ := Option.bind_eq_some_iff.mp e
  exact ⟨t, t', h1, h2, e⟩
theorem ass_sub {i : Expr} (h : plainX i = true) (o : Expr) (pos : Pos) (env : Env) (v : Value) : assign (.Subscript o i pos) env v = (do
      let ov ← holding [v] (eval o env)
      let iv ← holding [v, ov] (eval i env)
      standAt pos
      holding [v, ov, iv] (setItem ov iv v)
      release [v, ov, iv] []) := by
  cases i <;> first | rfl | cases h
theorem sub_rule (G : Good P k c X) {o i : Expr} (hx : plainX i = true) {pos : Pos} {v : V} {t : T} {Q : L2.St → Hp → Prop}
    (h : tW X o σ H fun w H1 => tW X i σ H1 fun x H2 => if isDct t = true then rSetD w x v H2 (fun H3 => Q σ H3) else rSetL w x v H2 (fun H3 => Q σ H3)) : gW X (.Subscript o i pos) v σ H Q := by
  cases hb : isDct t with
  | true =>
    rw [hb] at h
    exact gW.of (pg_sub pe_w pe_w (set_dict G.hu1) (ass_sub hx o pos X.env)) (h.mono fun w H1 q => q.mono fun x H2 q2 => by rw [if_pos rfl] at q2; exact q2)
  | false =>
    rw [hb] at h
    exact gW.of (pg_sub pe_w pe_w set_list (ass_sub hx o pos X.env)) (h.mono fun w H1 q => q.mono fun x H2 q2 => by rw [if_neg Bool.false_ne_true] at q2; exact q2)
/-- at the time of the store -/
theorem store_core {F0 H0 F1 H1 : Hp} {f gv h1 g h' : List Addr} {p : Pl} {d : D} {x v w : V} {t u : T} {s1 s' : S} (st0 : Step F0 H0 f F1 H1 (gv ++ h1)) (nd0 : (gv ++ h1).Nodup) (r1 : Rel X.K F1 H1 σ s1 h1) (e1 : p.at s1 = some t) (q3 : Own X.K F1 H1 w t g) (q4 : h1.Perm (g ++ h'))
    (q5 : ∀ {F' H' : Hp} {u : T} {g' : List Addr} {s' : S}, Keeps F1 H1 F' H' h' → Own X.K F' H' w u g' → p.put s1 u = some s' → Sls X.K F' H' σ s' (g' ++ h')) (rx : Rp F1 x d) (ov : Own X.K F1 H1 v u gv) (em : storeAt p d u s1 = some s') {Q : L2.St → Hp → Prop} {ix : List Nat}
    (q : ∀ σ' F' H' h, Step F0 H0 f F' H' h → Rel X.K F' H' σ' s' h → Out ix σ σ' → Q σ' H') : if isDct t = true then rSetD w x v H1 (fun H3 => Q σ H3) else rSetL w x v H1 (fun H3 => Q σ H3) := by
  obtain ⟨t1, t', e2, e3, e4⟩ := storeAt_eq em
  rw [e1] at e2
  cases e2
  have nd : (g ++ gv).Nodup := by
    have := (List.Perm.append_left gv q4).nodup_iff.mp nd0
    rw [← List.append_assoc] at this
    exact List.perm_append_comm.nodup_iff.mp (List.nodup_append.mp this).1
  refine store_ok r1.same q3 rx ov nd e3 fun F' H' g' st o1 n1 => ?_
  have P := change_post (u := .dat .none) (v := .non) (gv := []) st0 nd0 r1.has q4 (by simpa using st) (.dat .non) (by simpa using n1) fun kk => q5 kk o1 e4
  exact q σ F' H' (g' ++ h') (by simpa using P.step) P.rel (Out.refl _ _)
theorem sg_sub_var (G : Good P k c X) {p : Pl} {o i : Expr} {pos : Pos} {mi : S → Option (T × S)} (hv : p.isVar = true) (hp : okP c p o = true) (hi : SE X i mi) (hx : plainX i = true) : SG X (.Subscript o i pos) [] fun t s => (p.at s).bind fun _ => bnd (dOf (mi s)) fun k s => storeAt p k t s :=
  fun σ s F H f g v u s' Q sm ov sl nd em q => by
  obtain ⟨t0, e0, em⟩ := Option.bind_eq_some_iff.mp em
  obtain ⟨d, s1, e1, em⟩ := bnd_eq em
  obtain ⟨t1, t', m1, _, _⟩ := storeAt_eq em
  obtain ⟨n, rfl, e4⟩ := at_var hv e0
  obtain ⟨z, zp, rfl, hz⟩ := ok_var hp
  have r : Rel X.K F H σ s f := ⟨sm, sl, (List.nodup_append.mp nd).2.1⟩
  obtain ⟨w, _, ev, _⟩ := r.ownAt e4
  refine sub_rule G hx (t := t1) (gives_var G hz ev zp _ (hi.d σ s F H f d s1 _ r e1 fun x F1 H1 h1 p1 => ?_))
  obtain ⟨w', g', h', _, q2, q3, q4, q5⟩ := place G p1.rel hp m1
  have hw := q2 n rfl
  rw [ev] at hw
  cases hw
  have kk := p1.step.keeps (g := g) (nd_apart' nd) fun a m => ov.has a m
  have ap := p1.step.apart (g := g) (nd_apart' nd) fun b m => let ⟨_, o, e, _⟩ := ov.has b m; ⟨o, e⟩
  exact store_core (p1.step.frame g) (nd_app (List.nodup_append.mp nd).1 p1.rel.nd ap) p1.rel m1 q3 q4 q5 p1.rp (ov.keep kk) em q
theorem sg_sub_path (G : Good P k c X) {p : Pl} {e : E} {o i : Expr} {pos : Pos} (hp : okP c p o = true) (hi : okE c e i = true) (hx : plainX i = true) : SG X (.Subscript o i pos) [] fun t s => (pureK e s).bind fun k => storeAt p k t s :=
  fun σ s F H f g v u s' Q sm ov sl nd em q => by
  obtain ⟨d, e1, em⟩ := Option.bind_eq_some_iff.mp em
  obtain ⟨t1, t', m1, _, _⟩ := storeAt_eq em
  have r : Rel X.K F H σ s f := ⟨sm, sl, (List.nodup_append.mp nd).2.1⟩
  obtain ⟨w, g', h', q1, q2, q3, q4, q5⟩ := place G r hp m1
  obtain ⟨x, gx, rp⟩ := pureK_ok G r hi e1
  exact sub_rule G hx (t := t1) (q1 _ (gx _ (store_core ((Step.refl (f := g ++ f) sm)) nd r m1 q3 q4 q5 rp ov em q)))
end
end Eng

/-! ### Eng21 -/
/-! Eng21: tests; comprehensions. -/
namespace Eng
open PySem PySem.Spec PyProof.Rows L2
section
variable {P : Prg} {k : Nat} {c : CK} {X : Cx} {F H : Hp} {σ : L2.St} {s : S} {f : List Addr}
theorem boolOf_some {b : Bool} {s : S} : boolOf (some (.dat (.bool b), s)) = some (b, s) := rfl
theorem boolOf_bnd {α : Type} {m : Option (α × S)} {g : α → S → Option (T × S)} {b : Bool} {s : S} (h : boolOf (bnd m g) = some (b, s)) : ∃ a s1, m = some (a, s1) ∧ boolOf (g a s1) = some (b, s) := by
  cases m with
  | none => cases h
  | some p => obtain ⟨a, s1⟩ := p; exact ⟨a, s1, rfl, h⟩
theorem boolOf_map {o : Option Bool} {s1 s : S} {b : Bool} (h : boolOf (o.map fun c => (.dat (.bool c), s1)) = some (b, s)) : o = some b ∧ s1 = s := by
  cases o with
  | none => cases h
  | some c => cases h; exact ⟨rfl, rfl⟩
theorem st_cmp (G : Good P k c X) {o : COp} {op : CmpOp} {a b : Expr} {pos : Pos} {m : S → Option (List T × S)} (ho : copB o op = true) (hn : noBehind op b = true) (hse : SV2 X a b m) :
    ST X (.Compare a [op] [b] pos) fun s => boolOf (bnd (m s) fun ts s => (cmpTs o ts).map fun c => (.dat (.bool c), s)) := fun σ s F H f0 d s' Q r0 em q => by
  obtain ⟨ts, s1, e1, em⟩ := boolOf_bnd em
  obtain ⟨e3, rfl⟩ := boolOf_map em
  have e := copB_ok ho
  subst e
  refine ttW.of (pt_cmpR op_w pe_w pe_w (by simpa [noBehind] using hn)) (hse σ s F H f0 ts _ _ r0 e1 fun x y v w F1 H1 h1 ht st r1 vx vy => ?_)
  subst ht
  exact cmpT_ok G.hu e3 r1.same vx vy ⟨d, rfl, q F1 H1 h1 st r1⟩
theorem st_cmp2 (G : Good P k c X) {o o' : COp} {op op' : CmpOp} {a b d : Expr} {pos : Pos} {ma mb md : S → Option (T × S)} (ho : copB o op = true) (ho' : copB o' op' = true) (hl : lastMarks [op, op'] [b, d] = false) (ha : SE X a ma) (hb : SE X b mb) (hd : SE X d md) :
    ST X (.Compare a [op, op'] [b, d] pos) fun s => boolOf (bnd (dOf (ma s)) fun x s => bnd (dOf (mb s)) fun y s => (cmpT o (.dat x) (.dat y)).bind fun k =>
      if k then bnd (dOf (md s)) fun z s => (cmpT o' (.dat y) (.dat z)).map fun k' => (.dat (.bool k'), s) else some (.dat (.bool false), s)) := fun σ s F H f0 t s' Q r0 em q => by
  obtain ⟨x, s1, e1, em⟩ := boolOf_bnd em
  obtain ⟨y, s2, e2, em⟩ := boolOf_bnd em
  cases e3 : cmpT o (.dat x) (.dat y) with
  | none => rw [e3] at em; cases em
  | some kk =>
  rw [e3, Option.bind_some] at em
  have e := copB_ok ho
  subst e
  have e := copB_ok ho'
  subst e
  refine ttW.of (pt_chain op_w op_w pe_w pe_w pe_w hl) (ha.d σ s F H f0 x s1 _ r0 e1 fun v F1 H1 h1 p1 => hb.d σ s1 F1 H1 h1 y s2 _ p1.rel e2 fun w F2 H2 h2 p2 => ?_)
  obtain ⟨p, rv⟩ := p1.onD p2
  refine cmpT_ok G.hu e3 p.rel.same (.dat rv) (.dat p.rp) ⟨kk, rfl, ?_⟩
  cases kk with
  | false =>
    rw [if_neg Bool.false_ne_true] at em ⊢
    cases em
    exact ⟨_, rfl, q F2 H2 h2 p.step p.rel⟩
  | true =>
    rw [if_pos rfl] at em ⊢
    obtain ⟨z, s3, e4, em⟩ := boolOf_bnd em
    obtain ⟨e5, rfl⟩ := boolOf_map em
    refine hd.d σ s2 F2 H2 h2 z _ _ p.rel e4 fun w2 F3 H3 h3 p3 => ?_
    exact cmpT_ok G.hu e5 p3.rel.same (.dat (p.rp.mono p3.step.ff)) (.dat p3.rp) ⟨_, rfl, q F3 H3 h3 (p.step.trans p3.step) p3.rel⟩
theorem st_isN {a : Expr} {j pos pos'} {m : S → Option (T × S)} (h : SV1 X a m) : ST X (.Compare a [.Is] [.Constant .none j pos'] pos) fun s => boolOf (bnd (m s) fun x s => some (.dat (.bool (isNone x)), s)) := fun σ s F H f0 t s' Q r0 em q => by
  obtain ⟨x, s1, e1, em⟩ := boolOf_bnd em
  cases em
  refine ttW.of (pt_cmp (pc_isN pe_w) (is_beh (a := a)).1) (h σ s F H f0 x _ _ r0 e1 fun v F1 H1 h1 st r1 vw => ?_)
  rw [isNone_vw r1.same vw]
  exact ⟨_, rfl, q F1 H1 h1 st r1⟩
theorem st_isnN {a : Expr} {j pos pos'} {m : S → Option (T × S)} (h : SV1 X a m) : ST X (.Compare a [.IsNot] [.Constant .none j pos'] pos) fun s => boolOf (bnd (m s) fun x s => some (.dat (.bool (!isNone x)), s)) := fun σ s F H f0 t s' Q r0 em q => by
  obtain ⟨x, s1, e1, em⟩ := boolOf_bnd em
  cases em
  refine ttW.of (pt_cmp (pc_notN pe_w) (is_beh (a := a)).2) (h σ s F H f0 x _ _ r0 e1 fun v F1 H1 h1 st r1 vw => ?_)
  rw [isNone_vw r1.same vw]
  exact ⟨_, rfl, q F1 H1 h1 st r1⟩
theorem SW.mono {e : Expr} {m m' : S → Option (Bool × S)} (h : SW X e m) (hm : ∀ s, m' s = m s) : SW X e m' := fun σ s F H f b s' Q r em q => h σ s F H f b s' Q r (by rw [← hm]; exact em) q
theorem ST.mono {e : Expr} {m m' : S → Option (Bool × S)} (h : ST X e m) (hm : ∀ s, m' s = m s) : ST X e m' := fun σ s F H f b s' Q r em q => h σ s F H f b s' Q r (by rw [← hm]; exact em) q
theorem boolOf_bnd_eq {α : Type} (m : Option (α × S)) (g : α → S → Option (T × S)) : boolOf (bnd m g) = bnd m fun a s => boolOf (g a s) := by
  cases m with
  | none => rfl
  | some p => rfl
theorem boolOf_bndB (m : Option (T × S)) (g : Bool → S → Option (T × S)) : boolOf (bnd (boolOf m) g) = bnd (boolOf m) fun a s => boolOf (g a s) := boolOf_bnd_eq _ _
theorem nt_eq (m : S → Option (T × S)) (s : S) : boolOf (bnd (dOf (m s)) fun x s => (unD .nt x).map fun d => (.dat d, s)) = (boolOf (m s)).map fun p => (!p.1, p.2) := by
  cases hm : m s with
  | none => rfl
  | some p =>
    obtain ⟨t, s1⟩ := p
    cases t with
    | dat d => cases d <;> rfl
    | lst ts =>
      show boolOf (bnd (bnd (some (T.lst ts, s1)) fun t s => (T.data t).map fun d => (d, s)) _) = _
      simp only [bnd_some]
      cases hd : T.data (.lst ts) with
      | none => rfl
      | some d =>
        have : ∃ ds, d = .list ds := by
          unfold T.data at hd
          obtain ⟨ds, _, e⟩ := Option.map_eq_some_iff.mp hd
          exact ⟨ds, e.symm⟩
        obtain ⟨ds, rfl⟩ := this
        rfl
    | dK fz kvs => rfl
    | dT fz kvs => rfl
    | scr ns => rfl

/-! ### a comprehension's tests -/
def tsW (X : Cx) (ifs : List Expr) : TT := fun σ H Q => ∀ (pins : List (Addr × Obj)) (s : Shared), Inv X pins σ H s →
    wpAny (model X.prog X.w) X.A (forIn ifs true fun c r => if r = true then do let ok ← isTrue c X.env (eval c X.env); pure (ForInStep.yield ok) else pure (ForInStep.yield r)) (TP X pins σ Q) X.xe s
theorem pts_w {ifs : List Expr} : PTs X ifs (tsW X ifs) := ⟨fun pins s σ H Q I h => h pins s I⟩
theorem tsW.of {ifs : List Expr} {t : TT} {σ : L2.St} {H : Hp} {Q : Bool → Hp → Prop} (h : PTs X ifs t) (q : t σ H Q) : tsW X ifs σ H Q := fun pins s I => h.run pins s σ H Q I q
def STs (X : Cx) (ifs : List Expr) (m : S → Option (Bool × S)) : Prop := ∀ (σ : L2.St) (s : S) (F H : Hp) (f : List Addr) (b : Bool) (s' : S) (Q : Bool → Hp → Prop), Rel X.K F H σ s f → m s = some (b, s') →
  (∀ F' H' h, Step F H f F' H' h → Rel X.K F' H' σ s' h → Q b H') → tsW X ifs σ H Q
theorem sts_nil : STs X [] fun s => some (true, s) := fun σ s F H f b s' Q r em q => by
  cases em
  exact tsW.of pts_nil (q F H f (Step.refl r.same) r)
theorem sts_one {a : Expr} {m : S → Option (Bool × S)} (h : ST X a m) : STs X [a] fun s => bnd (m s) fun b s => if b then some (true, s) else some (false, s) := fun σ s F H f b s' Q r em q => by
  obtain ⟨b1, s1, e1, em⟩ := bnd_eq em
  have : b1 = b ∧ s1 = s' := by cases b1 <;> (cases em; exact ⟨rfl, rfl⟩)
  obtain ⟨rfl, rfl⟩ := this
  exact tsW.of (pts_one pt_w) (h σ s F H f b1 s1 Q r e1 q)

/-! ### slots forgotten, slots given back -/
theorem wipe_ok {K : PySem.W.Frag} : ∀ (own : List Nat) {σ : L2.St} {s : S} {f : List Addr}, Sls K F H σ s f → f.Nodup → ∃ h, Sls K F H (wipe σ own) (wipeS s own) h ∧ (∀ a ∈ h, a ∈ f) ∧ h.Nodup
  | [], σ, s, f, sl, nd => ⟨f, sl, fun a m => m, nd⟩
  | i :: own, σ, s, f, sl, nd => by
    obtain ⟨h, z1, z2, z3⟩ := wipe_ok own sl nd
    obtain ⟨r, g, y1, y2⟩ := z1.drop i none
    exact ⟨r, y1, fun a m => z2 a (y2.mem_iff.mpr (List.mem_append_right _ m)), (List.nodup_append.mp (y2.nodup_iff.mp z3)).2.1⟩
theorem wipe_get (σ : L2.St) (j : Nat) : ∀ own : List Nat, (wipe σ own)[j]? = if j ∈ own ∧ j < σ.length then some none else σ[j]?
  | [] => by simp [wipe]
  | i :: own => by
    unfold wipe
    by_cases e : i = j
    · subst e
      by_cases h : i < σ.length
      · rw [List.getElem?_set_self (by rw [wipe_length]; exact h), if_pos ⟨List.mem_cons_self, h⟩]
      · rw [List.getElem?_eq_none (by rw [List.length_set, wipe_length]; omega), if_neg (fun z => h z.2), List.getElem?_eq_none (by omega)]
    · rw [List.getElem?_set_ne e, wipe_get σ j own]
      have : (j ∈ i :: own ∧ j < σ.length) ↔ (j ∈ own ∧ j < σ.length) := by
        rw [List.mem_cons]
        constructor
        · rintro ⟨h1 | h1, h2⟩
          · exact absurd h1.symm e
          · exact ⟨h1, h2⟩
        · rintro ⟨h1, h2⟩; exact ⟨.inr h1, h2⟩
      by_cases h : j ∈ own ∧ j < σ.length
      · rw [if_pos h, if_pos (this.mpr h)]
      · rw [if_neg h, if_neg (fun z => h (this.mp z))]
theorem wipe_out {ix own : List Nat} {σ σ2 : L2.St} (h : Out ix (wipe σ own) σ2) (hi : ∀ j ∈ ix, j ∈ own) : wipe σ2 own = wipe σ own := by
  apply List.ext_getElem?
  intro j
  have hl : σ2.length = σ.length := by rw [h.1, wipe_length]
  rw [wipe_get σ2 j own, wipe_get σ j own, hl]
  by_cases c : j ∈ own ∧ j < σ.length
  · rw [if_pos c, if_pos c]
  · rw [if_neg c, if_neg c]
    by_cases c2 : j ∈ own
    · have : ¬ j < σ.length := fun z => c ⟨c2, z⟩
      rw [List.getElem?_eq_none (by omega), List.getElem?_eq_none (by omega)]
    · rw [h.2 j fun z => c2 (hi j z), wipe_get σ j own, if_neg c]
theorem back_len (s s1 : S) : ∀ own : List Nat, (backS s s1 own).length = s1.length
  | [] => rfl
  | i :: own => by unfold backS; rw [List.length_set, back_len s s1 own]
theorem back_get (s s1 : S) (j : Nat) : ∀ own : List Nat, (backS s s1 own)[j]? = if j ∈ own ∧ j < s1.length then some (getS s j) else s1[j]?
  | [] => by simp [backS]
  | i :: own => by
    unfold backS
    by_cases e : i = j
    · subst e
      by_cases h : i < s1.length
      · rw [List.getElem?_set_self (by rw [back_len]; exact h), if_pos ⟨List.mem_cons_self, h⟩]
      · rw [List.getElem?_eq_none (by rw [List.length_set, back_len]; omega), if_neg (fun z => h z.2), List.getElem?_eq_none (by omega)]
    · rw [List.getElem?_set_ne e, back_get s s1 j own]
      have : (j ∈ i :: own ∧ j < s1.length) ↔ (j ∈ own ∧ j < s1.length) := by
        rw [List.mem_cons]
        constructor
        · rintro ⟨h1 | h1, h2⟩
          · exact absurd h1.symm e
          · exact ⟨h1, h2⟩
        · rintro ⟨h1, h2⟩; exact ⟨.inr h1, h2⟩
      by_cases h : j ∈ own ∧ j < s1.length
      · rw [if_pos h, if_pos (this.mpr h)]
      · rw [if_neg h, if_neg (fun z => h (this.mp z))]
theorem back_set (s s1 : S) (i : Nat) (y x : Option T) (own : List Nat) : (backS s (s1.set i x) own).set i y = (backS s s1 own).set i y := by
  apply List.ext_getElem?
  intro j
  by_cases e : i = j
  · subst e
    rw [List.getElem?_set, List.getElem?_set, back_len, back_len, List.length_set, if_pos rfl, if_pos rfl]
  · rw [List.getElem?_set_ne e, List.getElem?_set_ne e, back_get, back_get, List.length_set, List.getElem?_set_ne e]
/-- what the own names held ahead -/
def HeldOk (F : Hp) (σ : L2.St) (s : S) (i : Nat) : Prop := match getS s i with
  | none => True
  | some (.dat d) => ∃ v, σ[i]? = some (some v) ∧ Rp F v d
  | _ => False
theorem back_ok {K : PySem.W.Frag} {s : S} {σ : L2.St} : ∀ (own : List Nat) {s1 : S} {h : List Addr}, Sls K F H (wipe σ own) s1 h → h.Nodup → (∀ i ∈ own, HeldOk F σ s i) → ∃ h', Sls K F H σ (backS s s1 own) h' ∧ (∀ a ∈ h', a ∈ h) ∧ h'.Nodup
  | [], s1, h, sl, nd, _ => ⟨h, sl, fun a m => m, nd⟩
  | i :: own, s1, h, sl, nd, ho => by
    obtain ⟨r, g, y1, y2⟩ := sl.drop i ((wipe σ own)[i]?.getD none)
    have e1 : (wipe σ (i :: own)).set i ((wipe σ own)[i]?.getD none) = wipe σ own := by
      show ((wipe σ own).set i none).set i _ = _
      rw [List.set_set]
      by_cases hl : i < (wipe σ own).length
      · exact set_get (by rw [List.getElem?_eq_getElem hl]; rfl)
      · exact set_off hl
    rw [e1] at y1
    have ndr := (List.nodup_append.mp (y2.nodup_iff.mp nd)).2.1
    obtain ⟨h', z1, z2, z3⟩ := back_ok own y1 ndr fun j m => ho j (List.mem_cons_of_mem _ m)
    have sub : ∀ a ∈ h', a ∈ h := fun a m => y2.mem_iff.mpr (List.mem_append_right _ (z2 a m))
    have hi := ho i List.mem_cons_self
    unfold HeldOk at hi
    have fin : backS s s1 (i :: own) = (backS s (s1.set i none) own).set i (getS s i) := by
      rw [back_set]
      rfl
    rw [fin]
    split at hi
    · rename_i e
      rw [e]
      obtain ⟨r2, g2, x1, x2⟩ := z1.drop i (σ[i]?.getD none)
      have e2 : σ.set i (σ[i]?.getD none) = σ := by
        by_cases hl : i < σ.length
        · exact set_get (by rw [List.getElem?_eq_getElem hl]; rfl)
        · exact set_off hl
      rw [e2] at x1
      exact ⟨r2, x1, fun a m => sub a (x2.mem_iff.mpr (List.mem_append_right _ m)), (List.nodup_append.mp (x2.nodup_iff.mp z3)).2.1⟩
    · rename_i d e
      rw [e]
      obtain ⟨v, hv, rv⟩ := hi
      obtain ⟨h3, x1, x2, x3⟩ := Sls.store (i := i) z1 (.dat rv : Own K F H v (.dat d) []) (by simpa using z3)
      rw [set_get hv] at x1
      exact ⟨h3, x1, fun a m => sub a (by simpa using x2 a m), x3⟩
    · exact hi.elim
theorem held {K : PySem.W.Frag} {own : List Nat} (r : Rel K F H σ s f) (h : ownFree s own = true) : ∀ i ∈ own, HeldOk F σ s i := fun i m => by
  unfold ownFree at h
  have := List.all_eq_true.mp h i m
  unfold HeldOk
  split
  · trivial
  · rename_i d e
    obtain ⟨v, h1, h2⟩ := r.dat e
    exact ⟨v, h1, h2⟩
  · rename_i e1 e2
    cases q : getS s i with
    | none => exact absurd q e1
    | some t =>
      rw [q] at this
      cases t with
      | dat d => exact absurd q (e2 d)
      | _ => cases this
theorem HeldOk.mono {F' : Hp} {i : Nat} (h : HeldOk F σ s i) (ff : Same F F') : HeldOk F' σ s i := by
  unfold HeldOk at *
  split at h
  · trivial
  · obtain ⟨v, h1, h2⟩ := h
    exact ⟨v, h1, h2.mono ff⟩
  · exact h.elim
/-- an owned thing beside a step -/
theorem side {K : PySem.W.Frag} {F' H' : Hp} {v : V} {t : T} {G hs h2 : List Addr} (st : Step F H hs F' H' h2) (o : Own K F H v t G) (nd : (G ++ hs).Nodup) (nd2 : h2.Nodup) : Own K F' H' v t G ∧ (G ++ h2).Nodup ∧ Step F H (G ++ hs) F' H' (G ++ h2) :=
  ⟨o.keep (st.keeps (nd_apart' nd) fun a m => o.has a m), nd_app (List.nodup_append.mp nd).1 nd2 (st.apart (nd_apart' nd) fun b m => let ⟨_, o, e, _⟩ := o.has b m; ⟨o, e⟩), st.frame G⟩

/-- what stands at a turn -/
structure TurnS (K : PySem.W.Frag) (F1 H1 : Hp) (h1 : List Addr) (σ : L2.St) (own : List Nat) (D : Addr) (ts : List T) (s : S) (H : Hp) : Prop where
  ex : ∃ (F : Hp) (G hs : List Addr), Step F1 H1 h1 F H (G ++ hs) ∧ Own K F H (.ref D) (.lst ts) G ∧ Sls K F H (wipe σ own) (wipeS s own) hs ∧ (G ++ hs).Nodup
theorem comp_ok {tg' elt' : Expr} {ifs' : List Expr} {ι : Type} {X' : ι → Cx} {ix own : List Nat} {asg : T → S → Option S} {test : S → Option (Bool × S)} {elt : S → Option (T × S)} {J : It} {F1 H1 : Hp} {h1 : List Addr} {ds : List D} {s1 sF : S} {tsF : List T} {Dd : Addr} {Q : VK}
    (hK : ∀ i, (X' i).K = X.K) (hg : ∀ i, SG (X' i) tg' ix asg) (ht : ∀ i, STs (X' i) ifs' test) (he : ∀ i, SE (X' i) elt' elt) (hix : ∀ j ∈ ix, j ∈ own) (r1 : Rel X.K F1 H1 σ s1 h1) (wk : Wk X.K F1 J ds) (em : compL (fun d s => asg (.dat d) (wipeS s own)) test elt ds s1 [] = some (tsF, sF)) (hD : H1 Dd = none)
    (q : ∀ H, TurnS X.K F1 H1 h1 σ own Dd tsF sF H → Q (.ref Dd) H) :
    ∃ W : Nat → Nat → Hp → Prop, (∃ m, W 0 m (upd H1 Dd (.lst []))) ∧ ∀ i m H, W i m H →
      (J.stop i H ∧ Q (.ref Dd) H) ∨ (J.go i H ∧ ∃ Nx : Hp → Prop, (∀ H', Nx H' → ∃ m', m' < m ∧ W (i + 1) m' H') ∧ ∀ x H', J.yld i H x H' → ∀ i0, gW (X' i0) tg' x (wipe σ own) H' fun σ2 H2 => wipe σ2 own = wipe σ own ∧ ∀ i1, tsW (X' i1) ifs' σ2 H2 fun b H3 =>
        if b = true then ∀ i2, tW (X' i2) elt' σ2 H3 fun y H4 => ∃ acc, H4 Dd = some (.lst acc) ∧ acc.length < sizeLine ∧ Nx (upd H4 Dd (.lst (acc ++ [y]))) else Nx H3) := by
  let Pv : Nat → Hp → Prop := fun i H => ∃ ts s, TurnS X.K F1 H1 h1 σ own Dd ts s H ∧ compL (fun d s => asg (.dat d) (wipeS s own)) test elt (ds.drop i) s ts = some (tsF, sF)
  refine ⟨fun i m H => m = ds.length - i ∧ i ≤ ds.length ∧ Pv i H, ⟨ds.length, by simp, Nat.zero_le _, [], s1, ⟨F1, [Dd], ?_⟩, by simpa using em⟩, ?_⟩
  · have nF : F1 Dd = none := r1.same.free hD
    have st : Step F1 H1 h1 F1 (upd H1 Dd (.lst [])) (Dd :: h1) := Step.newO r1.same hD
    have np : Dd ∉ h1 := fun m => by obtain ⟨_, o, e, _⟩ := r1.has Dd m; rw [hD] at e; cases e
    have kp : Keeps F1 H1 F1 (upd H1 Dd (.lst [])) h1 := ⟨Same.refl _, fun b m => ⟨upd_ne (fun z => np (z ▸ m)), (r1.has b m).1⟩⟩
    obtain ⟨h2, z1, z2, z3⟩ := wipe_ok own (r1.sl.keep kp) r1.nd
    refine ⟨h2, st.mono (fun b m => m) (fun b m => ?_), .lst upd_same nF .nil, z1, List.nodup_cons.mpr ⟨fun m => np (z2 _ m), z3⟩⟩
    rcases List.mem_cons.mp m with rfl | m
    · exact List.mem_cons_self
    · exact List.mem_cons_of_mem _ (z2 b m)
  rintro i m H ⟨rfl, hi, ts, s, ⟨F, G, hs, st, o, sl, nd⟩, em⟩
  by_cases hlt : i < ds.length
  case neg =>
    have e : i = ds.length := by omega
    subst e
    rw [List.drop_length] at em
    cases em
    exact .inl ⟨wk.stop F H st.ff st.fh, q H ⟨F, G, hs, st, o, sl, nd⟩⟩
  refine .inr ⟨wk.go F H i st.ff st.fh hlt, Pv (i + 1), fun H' p' => ⟨ds.length - (i + 1), by omega, rfl, hlt, p'⟩, fun x H' y => ?_⟩
  obtain ⟨F2, d, st2, hd, rd⟩ := wk.yld F H i x H' st.ff st.fh hlt y
  have hdrop : ds.drop i = d :: ds.drop (i + 1) := by
    obtain ⟨h1, h2⟩ := List.getElem?_eq_some_iff.mp hd
    rw [← h2]
    exact List.drop_eq_getElem_cons h1
  rw [hdrop] at em
  simp only [compL] at em
  obtain ⟨sa, ea, em⟩ := Option.bind_eq_some_iff.mp em
  obtain ⟨b, sb, eb, em⟩ := bnd_eq em
  have r0 : Rel X.K F H (wipe σ own) (wipeS s own) hs := ⟨st.fh, sl, (List.nodup_append.mp nd).2.1⟩
  obtain ⟨r2, st2'⟩ := r0.step0 st2
  obtain ⟨o2, nd2, stA⟩ := side st2' o nd r2.nd
  intro i0
  refine hg i0 (wipe σ own) (wipeS s own) F2 H' hs [] x (.dat d) sa _ st2.fh (.dat rd) (by rw [hK _]; exact r2.sl) (by simpa using r2.nd) ea fun σ3 F3 H3 h3 st3 r3 out => ⟨wipe_out out hix, fun i1 => ?_⟩
  rw [hK] at r3
  have st3' : Step F2 H' hs F3 H3 h3 := by simpa using st3
  obtain ⟨o3, nd3, stB⟩ := side st3' o2 nd2 r3.nd
  refine ht i1 σ3 sa F3 H3 h3 b sb _ (by rw [hK _]; exact r3) eb fun F4 H4 h4 st4 r4 => ?_
  rw [hK] at r4
  obtain ⟨o4, nd4, stC⟩ := side st4 o3 nd3 r4.nd
  have stAll := (st.trans stA).trans (stB.trans stC)
  cases b with
  | false =>
    rw [if_neg Bool.false_ne_true] at em ⊢
    obtain ⟨h5, z1, z2, z3⟩ := wipe_ok own r4.sl r4.nd
    rw [wipe_out out hix] at z1
    refine ⟨ts, sb, ⟨F4, G, h5, stAll.mono (fun b m => m) (fun b m => ?_), o4, z1, nd_app (List.nodup_append.mp nd4).1 z3 fun b m z => nd_apart' nd4 b m (z2 b z)⟩, em⟩
    rcases List.mem_append.mp m with m | m
    · exact List.mem_append_left _ m
    · exact List.mem_append_right _ (z2 b m)
  | true =>
    rw [if_pos rfl] at em ⊢
    obtain ⟨t, sc, ec, em⟩ := bnd_eq em
    split at em
    · rename_i hlen
      intro i2
      refine he i2 σ3 sb F4 H4 h4 t sc _ (by rw [hK _]; exact r4) ec fun yv F5 H5 g5 h5 p5 => ?_
      rw [hK] at p5
      obtain ⟨o5, nd5, stD⟩ := side p5.step o4 nd4 p5.nd
      have stAll2 := stAll.trans stD
      cases o5 with
      | @lst _ vs _ g0 eD nD os =>
        refine ⟨vs, eD, by rw [os.len]; exact line_lt hlen, ?_⟩
        obtain ⟨h6, z1, z2, z3⟩ := wipe_ok own p5.sl (List.nodup_append.mp p5.nd).2.1
        rw [wipe_out out hix] at z1
        rw [List.cons_append] at nd5
        have nd6 := List.nodup_cons.mp nd5
        have nin : ∀ b, b ∈ g0 ∨ b ∈ g5 ∨ b ∈ h6 → b ≠ Dd := fun b m z => nd6.1 (by
          subst z
          rcases m with m | m | m
          · exact List.mem_append_left _ m
          · exact List.mem_append_right _ (List.mem_append_left _ m)
          · exact List.mem_append_right _ (List.mem_append_right _ (z2 _ m)))
        have ow : Owns X.K F5 (upd H5 Dd (.lst (vs ++ [yv]))) (vs ++ [yv]) (ts ++ [t]) (g0 ++ g5) := by
          have a1 := mulL (w := .lst (vs ++ [yv])) os fun z => nin _ (.inl z) rfl
          have a2 := mulO (w := .lst (vs ++ [yv])) p5.own fun z => nin _ (.inr (.inl z)) rfl
          have := a1.app (.cons a2 .nil)
          rwa [List.append_nil] at this
        have kp : Keeps F5 H5 F5 (upd H5 Dd (.lst (vs ++ [yv]))) h6 := ⟨Same.refl _, fun b m => ⟨upd_ne (nin b (.inr (.inr m))), (z1.has b m).1⟩⟩
        refine ⟨ts ++ [t], sc, ⟨F5, Dd :: (g0 ++ g5), h6, stAll2.trans ((Step.set (f := Dd :: g0 ++ (g5 ++ h5)) p5.step.fh (by simp) nD).mono (fun b m => m) fun b m => ?_), .lst upd_same nD ow, z1.keep kp, ?_⟩, em⟩
        · rw [List.cons_append, List.append_assoc] at m
          rw [List.cons_append]
          rcases List.mem_cons.mp m with rfl | m
          · exact List.mem_cons_self
          · refine List.mem_cons_of_mem _ ?_
            rcases List.mem_append.mp m with m | m
            · exact List.mem_append_left _ m
            · rcases List.mem_append.mp m with m | m
              · exact List.mem_append_right _ (List.mem_append_left _ m)
              · exact List.mem_append_right _ (List.mem_append_right _ (z2 _ m))
        · rw [List.cons_append]
          refine List.nodup_cons.mpr ⟨fun m => ?_, ?_⟩
          · rcases List.mem_append.mp m with m | m
            · rcases List.mem_append.mp m with m | m
              · exact nin _ (.inl m) rfl
              · exact nin _ (.inr (.inl m)) rfl
            · exact nin _ (.inr (.inr m)) rfl
          · have n5 : ((g0 ++ g5) ++ h5).Nodup := by rw [List.append_assoc]; exact nd6.2
            exact nd_app (List.nodup_append.mp n5).1 z3 fun b m z => nd_apart' n5 b m (z2 b z)
    · cases em
/-- behind the comprehension -/
theorem comp_end {F0 H0 F1 H1 H : Hp} {h1 own : List Nat} {f : List Addr} {ts : List T} {s1 sF : S} {Dd : Addr} {K : PySem.W.Frag} (st0 : Step F0 H0 f F1 H1 h1) (r1 : Rel K F1 H1 σ s1 h1) (ho : ownFree s1 own = true) (t : TurnS K F1 H1 h1 σ own Dd ts sF H) :
    ∃ F' g h, Post K F0 H0 f σ (.ref Dd) (.lst ts) (backS s1 (wipeS sF own) own) F' H g h := by
  obtain ⟨F, G, hs, st, o, sl, nd⟩ := t
  obtain ⟨h', z1, z2, z3⟩ := back_ok own sl (List.nodup_append.mp nd).2.1 fun i m => (held r1 ho i m).mono st.ff
  refine ⟨F, G, h', (st0.trans st).mono (fun b m => m) (fun b m => ?_), o, z1, nd_app (List.nodup_append.mp nd).1 z3 fun b m z => nd_apart' nd b m (z2 b z)⟩
  rcases List.mem_append.mp m with m | m
  · exact List.mem_append_left _ m
  · exact List.mem_append_right _ (z2 b m)
end
end Eng

/-! ### Eng22 -/
set_option maxHeartbeats 8000000
/-! Eng22: what the interpreter tells of an expression is so. -/
namespace Eng
open PySem PySem.Spec PyProof.Rows L2
section
variable {P : Prg} {k : Nat} {c : CK} {X : Cx}
theorem Good.inner (G : Good P k c X) {scope : Scope} (hk : scope.kind = .function) (s : Shared) (H : Hp) (C : Addr) (cl : List (Str × Addr)) (fp : List Addr) : Good P k (c.inner scope) (X.blk s H scope (compEnvC scope cl C X.env) fp) where
  N := G.N
  sc := by
    show relS scope X.env.scope = relS scope c.sc
    rw [G.sc]
  fn := rfl
  kind := hk
  calm := G.calm
  nd := G.nd
  room := G.room
  free := G.free
  ms := G.ms
  names := G.names
  fns := fun j d h => ⟨(G.fns j d h).ex⟩
abbrev Fam := Shared × Hp × Addr × List (Str × Addr) × List Addr
def blkF (X : Cx) (scope : Scope) (i : Fam) : Cx := X.blk i.1 i.2.1 scope (compEnvC scope i.2.2.2.1 i.2.2.1 X.env) i.2.2.2.2
theorem se_comp (G : Good P k c X) {elt' tg' iter' : Expr} {ifs' : List Expr} {scope : Scope} {pos : Pos} {own ix : List Nat} {asg : T → S → Option S} {test : S → Option (Bool × S)} {elt : S → Option (T × S)} {src : S → Option (List D × S)}
    (hown : ownOk c scope own = true) (hp : plainX iter' = true) (hix : ∀ j ∈ ix, j ∈ own) (hsrc : SSrc X tg' iter' src)
    (hg : ∀ X', Good P k (c.inner scope) X' → SG X' tg' ix asg) (ht : ∀ X', Good P k (c.inner scope) X' → STs X' ifs' test) (he : ∀ X', Good P k (c.inner scope) X' → SE X' elt' elt) :
    SE X (.ListComp elt' [⟨tg', iter', ifs', 0⟩] scope pos) fun s => bnd (src s) fun ds s => if ownFree s own then bnd (compL (fun d s => asg (.dat d) (wipeS s own)) test elt ds s []) fun ts s1 => some (.lst ts, backS s (wipeS s1 own) own) else none := fun σ s F H f t s' Q r em q => by
  obtain ⟨ds, s1, e1, em⟩ := bnd_eq em
  split at em
  · rename_i hfree
    obtain ⟨tsF, sF, e2, em⟩ := bnd_eq em
    cases em
    unfold ownOk at hown
    rw [Bool.and_eq_true] at hown
    have ok : BlkOk X.N X.env.scope scope (own.map fun i => (c.N.getD i "", i)) := by
      rw [G.N, G.sc]
      exact blkOk_by hown.2
    have hmap : ((own.map fun i => (c.N.getD i "", i)).map (·.2)) = own := by
      rw [List.map_map]
      exact List.map_id own
    have GG : ∀ i : Fam, Good P k (c.inner scope) (blkF X scope i) := fun i => G.inner ok.kind _ _ _ _ _
    refine tW.of (pe_lc (wi := iW X tg' iter') (g := fun v σ H Q => ∀ i : Fam, gW (blkF X scope i) tg' v σ H Q) (tt := fun σ H Q => ∀ i : Fam, tsW (blkF X scope i) ifs' σ H Q) (te := fun σ H Q => ∀ i : Fam, tW (blkF X scope i) elt' σ H Q) G.calm (by rw [G.N]; exact G.nd) pi_w ok
      (fun s H C cl fp => ⟨fun pins s1 σ H1 v u Q I rr h => h (s, H, C, cl, fp) pins s1 u I rr⟩) (fun s H C cl fp => ⟨fun pins s1 σ H1 Q I h => h (s, H, C, cl, fp) pins s1 I⟩) (fun s H C cl fp => ⟨fun pins s1 σ H1 Q I h => h (s, H, C, cl, fp) pins s1 I⟩) (fun x => plain_fold hp _ x)) ?_
    rw [hmap]
    refine hsrc σ s F H f ds s1 _ r e1 fun J F1 H1 h1 st r1 wk Dd hD => ?_
    exact comp_ok (X := X) (fun i => rfl) (fun i => hg _ (GG i)) (fun i => ht _ (GG i)) (fun i => he _ (GG i)) hix r1 wk e2 hD fun H2 tn => by
      obtain ⟨F', g, h, p⟩ := comp_end st r1 hfree tn
      exact q _ F' H2 g h p
  · cases em
theorem SE.eqv {e : Expr} {m m' : S → Option (T × S)} (h : SE X e m) (hm : ∀ s, m' s = m s) : SE X e m' := fun σ s F H f t s' Q r em q => h σ s F H f t s' Q r (by rw [← hm]; exact em) q
end
section
variable {P : Prg} {k : Nat}
theorem evalAs_nil {C : Nat → List T → Option (T × List (Option T))} {refs : Nat → List Bool} {c : CK} {as : As} (h : okAs c as [] = true) : as = .nil := by
  cases as with
  | nil => rfl
  | ref i as => simp [okAs] at h
  | val e as => simp [okAs] at h
theorem assTs_len {C : Nat → List T → Option (T × List (Option T))} {refs : Nat → List Bool} {c : CK} : ∀ {ts : Tgs} {es : List Expr} {ds : List D} {s s' : S}, okTs c ts es = true → assTs C refs ts ds s = some s' → ds.length = es.length
  | .nil, [], [], _, _, _, _ => rfl
  | .nil, [], _ :: _, _, _, _, e => by simp [assTs] at e
  | .nil, _ :: _, _, _, _, h, _ => by simp [okTs] at h
  | .cons _ _, [], _, _, _, h, _ => by simp [okTs] at h
  | .cons t ts, a :: as, [], _, _, _, e => by simp [assTs] at e
  | .cons t ts, a :: as, d :: ds, s, s', h, e => by
    simp only [okTs, Bool.and_eq_true] at h
    simp only [assTs] at e
    obtain ⟨s1, _, e2⟩ := Option.bind_eq_some_iff.mp e
    simp [assTs_len h.2 e2]
theorem val_t {X : Cx} {a : Expr} {m : S → Option (T × S)} (h : SE X a m) (hv : valT a = true) : ST X a (fun s => boolOf (m s)) ∧ ∀ op es pos, a = .BoolOp op es pos → SW X a (fun s => boolOf (m s)) :=
  ⟨st_val h (valT_ok hv _), fun op es pos e => by subst e; cases hv⟩
theorem and_eq (ma mb : S → Option (T × S)) (s : S) : boolOf (bnd (boolOf (ma s)) fun c s => if c then mb s else some (.dat (.bool false), s)) = bnd (boolOf (ma s)) fun c s => if c then boolOf (mb s) else some (false, s) := by
  rw [boolOf_bndB]
  cases boolOf (ma s) with
  | none => rfl
  | some p => obtain ⟨b, s1⟩ := p; cases b <;> rfl
theorem or_eq (ma mb : S → Option (T × S)) (s : S) : boolOf (bnd (boolOf (ma s)) fun c s => if c then some (.dat (.bool true), s) else mb s) = bnd (boolOf (ma s)) fun c s => if c then some (true, s) else boolOf (mb s) := by
  rw [boolOf_bndB]
  cases boolOf (ma s) with
  | none => rfl
  | some p => obtain ⟨b, s1⟩ := p; cases b <;> rfl
/-- a value, and a test -/
def Snd (P : Prg) (k : Nat) (X : Cx) (e : E) (a : Expr) : Prop := SE X a (evalE (run P k) (refsOf P) e) ∧ (tstE e a = true → ST X a (fun s => boolOf (evalE (run P k) (refsOf P) e s)) ∧ ∀ op es pos, a = .BoolOp op es pos → SW X a (fun s => boolOf (evalE (run P k) (refsOf P) e s)))
theorem sval {P : Prg} {k : Nat} {X : Cx} {e : E} {a : Expr} (h : SE X a (evalE (run P k) (refsOf P) e)) (hv : tstE e a = valT a) : Snd P k X e a := ⟨h, fun ht => val_t h (by rw [hv] at ht; exact ht)⟩
theorem stst {P : Prg} {k : Nat} {X : Cx} {e : E} {a : Expr} (h : SE X a (evalE (run P k) (refsOf P) e)) (t : ST X a fun s => boolOf (evalE (run P k) (refsOf P) e s)) (hn : ∀ op es pos, a ≠ .BoolOp op es pos) : Snd P k X e a := ⟨h, fun _ => ⟨t, fun op es pos e => absurd e (hn op es pos)⟩⟩
mutual
theorem e_ok : ∀ (e : E) (c : CK) (X : Cx), Good P k c X → ∀ a : Expr, okE c e a = true → Snd P k X e a
  | .var i, c, X, G, a, h => by
    cases a <;> first | (cases h; done) | skip
    exact sval (se_var (G.vis h)) (by simp only [tstE])
  | .mv i, c, X, G, a, h => by
    cases a <;> first | (cases h; done) | skip
    exact sval (se_mv (G.vis h)) (by simp only [tstE])
  | .int i, c, X, G, a, h => by
    cases a <;> first | (cases h; done) | skip
    rename_i cst _ _
    cases cst <;> first | (cases h; done) | skip
    simp only [okE, decide_eq_true_eq] at h
    subst h
    exact sval (se_const pe_int fun F => .int _) (by simp only [tstE])
  | .bl b, c, X, G, a, h => by
    cases a <;> first | (cases h; done) | skip
    rename_i cst _ _
    cases cst <;> first | (cases h; done) | skip
    simp only [okE, beq_iff_eq] at h
    subst h
    exact sval (se_const pe_bl fun F => .bl _) (by simp only [tstE])
  | .non, c, X, G, a, h => by
    cases a <;> first | (cases h; done) | skip
    rename_i cst _ _
    cases cst <;> first | (cases h; done) | skip
    exact sval (se_const pe_non fun F => .non) (by simp only [tstE])
  | .str x, c, X, G, a, h => by
    cases a <;> first | (cases h; done) | skip
    rename_i cst _ _
    cases cst <;> first | (cases h; done) | skip
    simp only [okE, decide_eq_true_eq] at h
    subst h
    exact sval (se_const pe_str fun F => .str _) (by simp only [tstE])
  | .bin o x y, c, X, G, a, h => by
    cases a <;> first | (cases h; done) | skip
    simp only [okE, Bool.and_eq_true] at h
    rw [opB_ok h.1.1]
    exact sval (se_bin (e_ok x c X G _ h.1.2).1 (e_ok y c X G _ h.2).1) (by simp only [tstE])
  | .un o x, c, X, G, a, h => by
    cases a <;> first | (cases h; done) | skip
    rename_i op a' pos
    simp only [okE, Bool.and_eq_true] at h
    have ih := e_ok x c X G _ h.2
    cases o <;> cases op <;> first | (cases h.1; done) | skip
    · exact sval (se_un (o := .neg) (by simp) ih.1) (by simp only [tstE])
    · exact sval (se_un (o := .inv) (by simp) ih.1) (by simp only [tstE])
    · exact ⟨se_nt ih.1, fun ht => ⟨(st_not (ih.2 ht).1).mono fun s => nt_eq _ s, fun _ _ _ e => by cases e⟩⟩
  | .and x y, c, X, G, a, h => by
    cases a <;> first | (cases h; done) | skip
    rename_i op es pos
    cases op <;> first | (cases h; done) | skip
    cases es with
    | nil => cases h
    | cons e1 es =>
      cases es with
      | nil => cases h
      | cons e2 es =>
        simp only [okE, Bool.and_eq_true] at h
        have i1 := e_ok x c X G _ h.1
        have i2 := e_ok y c X G _ h.2
        refine ⟨se_and i1.1 i2.1, fun ht => ?_⟩
        have ht : (tstE x e1 && tstE y (.BoolOp .And (e2 :: es) pos)) = true := ht
        rw [Bool.and_eq_true] at ht
        have w := SW.mono (m' := fun s => boolOf (evalE (run P k) (refsOf P) (.and x y) s)) (sw_and (i1.2 ht.1).1 ((i2.2 ht.2).2 _ _ _ rfl)) fun s => and_eq _ _ s
        exact ⟨w.st, fun op es' pos' e => by cases e; exact w⟩
  | .or x y, c, X, G, a, h => by
    cases a <;> first | (cases h; done) | skip
    rename_i op es pos
    cases op <;> first | (cases h; done) | skip
    cases es with
    | nil => cases h
    | cons e1 es =>
      cases es with
      | nil => cases h
      | cons e2 es =>
        simp only [okE, Bool.and_eq_true] at h
        have i1 := e_ok x c X G _ h.1
        have i2 := e_ok y c X G _ h.2
        refine ⟨se_or i1.1 i2.1, fun ht => ?_⟩
        have ht : (tstE x e1 && tstE y (.BoolOp .Or (e2 :: es) pos)) = true := ht
        rw [Bool.and_eq_true] at ht
        have w := SW.mono (m' := fun s => boolOf (evalE (run P k) (refsOf P) (.or x y) s)) (sw_or (i1.2 ht.1).1 ((i2.2 ht.2).2 _ _ _ rfl)) fun s => or_eq _ _ s
        exact ⟨w.st, fun op es' pos' e => by cases e; exact w⟩
  | .one x, c, X, G, a, h => by
    cases a <;> first | (cases h; done) | skip
    rename_i op es pos
    cases es with
    | nil => cases op <;> cases h
    | cons e1 es =>
      cases es with
      | nil =>
        have h : okE c x e1 = true := by cases op <;> exact h
        have i1 := e_ok x c X G _ h
        have hE : ∀ s, evalE (run P k) (refsOf P) (.one x) s = evalE (run P k) (refsOf P) x s := fun s => by rw [evalE]
        refine ⟨(se_one i1.1).eqv hE, fun ht => ?_⟩
        have hT : tstE (.one x) (.BoolOp op [e1] pos) = tstE x e1 := by cases op <;> rw [tstE]
        have w := sw_one (pos := pos) (i1.2 (hT ▸ ht)).1
        have w2 : SW X (.BoolOp op [e1] pos) (fun s => boolOf (evalE (run P k) (refsOf P) x s)) := by
          cases op
          · exact w.1
          · exact w.2
        have w3 := SW.mono (m' := fun s => boolOf (evalE (run P k) (refsOf P) (.one x) s)) w2 fun s => by show boolOf (evalE (run P k) (refsOf P) (.one x) s) = _; rw [hE]
        exact ⟨w3.st, fun op es' pos' e => by cases e; exact w3⟩
      | cons e2 es => cases op <;> cases h
  | .cmp o vs, c, X, G, a, h => by
    cases a <;> first | (cases h; done) | skip
    rename_i a' ops bs pos
    obtain ⟨op, b, rfl, rfl, h1, h2, h3⟩ : ∃ op b, ops = [op] ∧ bs = [b] ∧ copB o op = true ∧ noBehind op b = true ∧ okVs c vs [a', b] = true := by
      cases ops with
      | nil => cases h
      | cons op ops =>
        cases ops with
        | nil =>
          cases bs with
          | nil => cases h
          | cons b bs =>
            cases bs with
            | nil => simp only [okE, Bool.and_eq_true] at h; exact ⟨op, b, rfl, rfl, h.1.1, h.1.2, h.2⟩
            | cons _ _ => cases h
        | cons _ _ => cases h
    have i1 := (vs_ok vs c X G a' b h3).1
    exact stst (se_cmp G h1 h2 i1) (st_cmp G h1 h2 i1) (fun _ _ _ e => by cases e)
  | .cmp2 o o' x y z, c, X, G, a, h => by
    cases a <;> first | (cases h; done) | skip
    rename_i a' ops bs pos
    obtain ⟨op, op', b, d, rfl, rfl, h1⟩ : ∃ op op' b d, ops = [op, op'] ∧ bs = [b, d] ∧ (copB o op && copB o' op' && !lastMarks [op, op'] [b, d] && okE c x a' && okE c y b && okE c z d) = true := by
      cases ops with
      | nil => cases h
      | cons op ops =>
        cases ops with
        | nil => cases h
        | cons op' ops =>
          cases ops with
          | cons _ _ => cases h
          | nil =>
            cases bs with
            | nil => cases h
            | cons b bs =>
              cases bs with
              | nil => cases h
              | cons d bs =>
                cases bs with
                | nil => exact ⟨op, op', b, d, rfl, rfl, h⟩
                | cons _ _ => cases h
    simp only [Bool.and_eq_true, Bool.not_eq_true'] at h1
    have i1 := (e_ok x c X G _ h1.1.1.2).1
    have i2 := (e_ok y c X G _ h1.1.2).1
    have i3 := (e_ok z c X G _ h1.2).1
    exact stst (se_cmp2 G h1.1.1.1.1.1 h1.1.1.1.1.2 h1.1.1.1.2 i1 i2 i3) (st_cmp2 G h1.1.1.1.1.1 h1.1.1.1.1.2 h1.1.1.1.2 i1 i2 i3) (fun _ _ _ e => by cases e)
  | .isN b, c, X, G, a, h => by
    cases a <;> first | (cases h; done) | skip
    rename_i a' ops bs pos
    cases ops with
    | nil => cases h
    | cons op ops =>
      cases op <;> first | (cases h; done) | skip
      cases ops with
      | cons _ _ => cases h
      | nil =>
        cases bs with
        | nil => cases h
        | cons d bs =>
          cases d <;> first | (cases h; done) | skip
          rename_i cst _ _
          cases cst <;> first | (cases h; done) | skip
          cases bs with
          | cons _ _ => cases h
          | nil =>
            have i1 := b_ok b c X G _ h
            exact stst (se_isN i1) (st_isN i1) (fun _ _ _ e => by cases e)
  | .isnN b, c, X, G, a, h => by
    cases a <;> first | (cases h; done) | skip
    rename_i a' ops bs pos
    cases ops with
    | nil => cases h
    | cons op ops =>
      cases op <;> first | (cases h; done) | skip
      cases ops with
      | cons _ _ => cases h
      | nil =>
        cases bs with
        | nil => cases h
        | cons d bs =>
          cases d <;> first | (cases h; done) | skip
          rename_i cst _ _
          cases cst <;> first | (cases h; done) | skip
          cases bs with
          | cons _ _ => cases h
          | nil =>
            have i1 := b_ok b c X G _ h
            exact stst (se_isnN i1) (st_isnN i1) (fun _ _ _ e => by cases e)
  | .ife t x y, c, X, G, a, h => by
    cases a <;> first | (cases h; done) | skip
    simp only [okE, Bool.and_eq_true] at h
    exact sval (se_ife ((e_ok t c X G _ h.1.1.1).2 h.1.1.2).1 (e_ok x c X G _ h.1.2).1 (e_ok y c X G _ h.2).1) (by simp only [tstE])
  | .call f as, c, X, G, a, h => by
    cases a <;> first | (cases h; done) | skip
    rename_i fe es kws pos
    cases fe <;> first | (cases h; done) | skip
    cases kws with
    | cons _ _ => cases h
    | nil =>
      simp only [okE, Bool.and_eq_true] at h
      refine sval (se_call G h.1 (okAs_plain h.2) (as_ok as c X G es h.2) fun hn s ts s' e => ?_) (by simp only [tstE])
      subst hn
      have := evalAs_nil (C := run P k) (refs := refsOf P) h.2
      subst this
      cases e
      exact ⟨rfl, rfl, rfl⟩
  | .callK f np es ks perm, c, X, G, a, h => by
    cases a <;> first | (cases h; done) | skip
    rename_i fe as kws pos
    cases fe <;> first | (cases h; done) | skip
    cases as with
    | cons _ _ => cases h
    | nil =>
      simp only [okE, Bool.and_eq_true, decide_eq_true_eq] at h
      obtain ⟨⟨⟨⟨h1, h2⟩, h3⟩, h4⟩, h5⟩ := h
      subst h2
      exact sval (se_callK G h1 h3 h5 (ks_ok es c X G kws h4)) (by simp only [tstE])
  | .bi f vs, c, X, G, a, h => by
    cases a <;> first | (cases h; done) | skip
    rename_i fe es kws pos
    cases fe <;> first | (cases h; done) | skip
    rename_i x p
    cases kws with
    | cons _ _ => cases h
    | nil =>
      simp only [okE] at h
      split at h
      · rename_i he
        simp only [Bool.and_eq_true, decide_eq_true_eq] at h
        obtain ⟨⟨⟨h1, h2⟩, h3⟩, h4⟩ := h
        cases vs with
        | one b =>
          cases es with
          | nil => cases h3
          | cons e r =>
            have h3 : okVs c (.one b) [e] = true := h3
            have h4 : extB c f r = true := h4
            simp only [okVs, Bool.and_eq_true] at h3
            exact sval (se_bi1 G h1 he h2 h4 h3.2 (b_ok b c X G e h3.1)) (by simp only [tstE])
        | two b d =>
          cases es with
          | nil => cases h3
          | cons e r =>
            cases r with
            | nil => cases h3
            | cons e2 r =>
              have h3 : okVs c (.two b d) [e, e2] = true := h3
              have h4 : extB c f r = true := h4
              obtain ⟨q1, q2⟩ := vs_ok (.two b d) c X G e e2 h3
              simp only [okVs, Bool.and_eq_true] at h3
              exact sval (se_bi2 G h1 he h2 h4 h3.1.2 h3.2 q2 q1) (by simp only [tstE])
      · split at h
        · rename_i y e he
          obtain ⟨p2, pos2, rfl⟩ := revArg_ok he
          simp only [Bool.and_eq_true, decide_eq_true_eq] at h
          obtain ⟨⟨⟨⟨⟨h0, h1⟩, h2⟩, h3⟩, h4⟩, h5⟩ := h
          subst h0
          cases vs with
          | two b d => cases h5
          | one b =>
            simp only [okVs, Bool.and_eq_true] at h5
            exact sval (se_rev G h1 h2 h3 h4 h5.2 (b_ok b c X G e h5.1)) (by simp only [tstE])
        · cases h
  | .tup es, c, X, G, a, h => by
    cases a <;> first | (cases h; done) | skip
    exact sval (se_tup (es_ok es c X G _ h)) (by simp only [tstE])
  | .lst es, c, X, G, a, h => by
    cases a <;> first | (cases h; done) | skip
    exact sval (se_lst (es_ok es c X G _ h)) (by simp only [tstE])
  | .idx (.ex e) ix, c, X, G, a, h => by
    cases a <;> first | (cases h; done) | skip
    simp only [okE, okB, Bool.and_eq_true] at h
    exact sval (se_idx_ex G (e_ok e c X G _ h.1.1).1 (e_ok ix c X G _ h.1.2).1 h.2) (by simp only [tstE])
  | .idx (.pl p) ix, c, X, G, a, h => by
    cases a <;> first | (cases h; done) | skip
    simp only [okE, okB, Bool.and_eq_true] at h
    have ih := (e_ok ix c X G _ h.1.2).1
    refine sval ?_ (by simp only [tstE])
    intro σ s F H f t s' Q r em q
    simp only [evalE] at em
    split at em
    · rename_i hv
      exact se_idx_var G hv h.1.1 ih h.2 σ s F H f t s' Q r em q
    · exact se_idx_path G h.1.1 h.1.2 h.2 σ s F H f t s' Q r em q
  | .slc (.ex e) lo hi, c, X, G, a, h => by
    cases a <;> first | (cases h; done) | skip
    rename_i b sl pos
    cases sl <;> first | (cases h; done) | skip
    rename_i l u st _
    cases st with
    | some _ => cases h
    | none =>
      simp only [okE, okB, Bool.and_eq_true] at h
      exact sval (se_slc_ex (e_ok e c X G _ h.1.1).1 (o_ok lo c X G _ h.1.2) (o_ok hi c X G _ h.2)) (by simp only [tstE])
  | .slc (.pl p) lo hi, c, X, G, a, h => by
    cases a <;> first | (cases h; done) | skip
    rename_i b sl pos
    cases sl <;> first | (cases h; done) | skip
    rename_i l u st _
    cases st with
    | some _ => cases h
    | none =>
      simp only [okE, okB, Bool.and_eq_true] at h
      have i1 := o_ok lo c X G _ h.1.2
      have i2 := o_ok hi c X G _ h.2
      refine sval ?_ (by simp only [tstE])
      intro σ s F H f t s' Q r em q
      simp only [evalE] at em
      split at em
      · rename_i hv
        exact se_slc_var G hv h.1.1 i1 i2 σ s F H f t s' Q r em q
      · exact se_slc_path G h.1.1 h.1.2 h.2 σ s F H f t s' Q r em q
  | .meth m p es, c, X, G, a, h => by
    cases a <;> first | (cases h; done) | skip
    rename_i fe as kws cpos
    cases fe <;> first | (cases h; done) | skip
    rename_i o name apos
    cases kws with
    | cons _ _ => cases h
    | nil =>
      simp only [okE, Bool.and_eq_true, decide_eq_true_eq] at h
      obtain ⟨⟨⟨⟨⟨h1, h2⟩, h3⟩, h4⟩, h5⟩, h6⟩ := h
      have ih := es_ok es c X G as h3
      cases hm : isLm m with
      | true =>
        refine sval ?_ (by simp only [tstE])
        intro σ s F H f t s' Q r em q
        rw [evalE] at em
        exact se_meth (C := run P k) (refs := refsOf P) G hm h1 h2 h3 ih h5 h4 σ s F H f t s' Q r em q
      | false =>
        cases m <;> first | (cases hm; done) | (cases h6; done) | skip
        · cases es with
          | nil => cases h6
          | cons e1 es =>
            cases es with
            | cons _ _ => cases h6
            | nil =>
              cases as with
              | nil => cases h3
              | cons a1 as =>
                cases as with
                | cons _ _ => simp [okEs] at h3
                | nil =>
                  simp only [okEs, Bool.and_eq_true] at h3
                  have i1 := (e_ok e1 c X G a1 h3.1.1).1
                  refine sval ?_ (by simp only [tstE])
                  intro σ s F H f t s' Q r em q
                  rw [evalE] at em
                  exact se_get1 (C := run P k) (refs := refsOf P) G h1 h2 h3.1.1 h3.1.2 i1 h4 σ s F H f t s' Q r em q
        · cases es with
          | nil => cases h6
          | cons e1 es =>
            cases es with
            | nil => cases h6
            | cons e2 es =>
              cases es with
              | cons _ _ => cases h6
              | nil =>
                cases as with
                | nil => cases h3
                | cons a1 as =>
                  cases as with
                  | nil => simp [okEs] at h3
                  | cons a2 as =>
                    cases as with
                    | cons _ _ => simp [okEs] at h3
                    | nil =>
                      simp only [okEs, Bool.and_eq_true] at h3
                      have i1 := (e_ok e1 c X G a1 h3.1.1).1
                      have i2 := (e_ok e2 c X G a2 h3.2.1.1).1
                      refine sval ?_ (by simp only [tstE])
                      intro σ s F H f t s' Q r em q
                      rw [evalE] at em
                      exact se_get2 (C := run P k) (refs := refsOf P) G h1 h2 h3.1.1 h3.2.1.1 h3.1.2 h3.2.1.2 i1 i2 h4 σ s F H f t s' Q r em q
  | .comp elt own tg it ifs, c, X, G, a, h => by
    cases a <;> first | (cases h; done) | skip
    rename_i elt' gens scope pos
    cases gens with
    | nil => cases h
    | cons gen gens =>
      obtain ⟨tg', iter', ifs', asy⟩ := gen
      cases gens with
      | cons _ _ => cases asy with
        | ofNat n => cases n <;> cases h
        | negSucc n => cases h
      | nil =>
        cases asy with
        | negSucc n => cases h
        | ofNat n =>
        cases n with
        | succ _ => cases h
        | zero =>
          have h : (ownOk c scope own && plainX elt' && okE (c.inner scope) elt elt' && okT (c.inner scope) tg tg' && (tgIx tg).all (own.contains ·) && okSrc c tg' it iter' && okIfs (c.inner scope) ifs ifs' && plainX iter') = true := h
          simp only [Bool.and_eq_true] at h
          obtain ⟨⟨⟨⟨⟨⟨⟨h1, h2⟩, h3⟩, h4⟩, h5⟩, h6⟩, h7⟩, h8⟩ := h
          have i1 := src_ok it c X G tg' iter' h6
          have i2 := fun X' G' => g_ok tg (c.inner scope) X' G' tg' h4
          have i3 := fun X' G' => ifs_ok ifs (c.inner scope) X' G' ifs' h7
          have i4 := fun X' G' => (e_ok elt (c.inner scope) X' G' elt' h3).1
          refine sval ?_ (by simp only [tstE])
          intro σ s F H f t s' Q r em q
          rw [evalE] at em
          exact se_comp G h1 h8 (fun j m => by simpa using List.all_eq_true.mp h5 j m) i1 i2 i3 i4 σ s F H f t s' Q r em q
  | .dnew tk, c, X, G, a, h => by
    cases a <;> first | (cases h; done) | skip
    rename_i ks vs pos
    cases ks with
    | cons _ _ => cases h
    | nil =>
      cases vs with
      | cons _ _ => cases h
      | nil => exact sval (se_dnew) (by simp only [tstE])
  | .d1 tk x y, c, X, G, a, h => by
    cases a <;> first | (cases h; done) | skip
    rename_i ks vs pos
    cases ks with
    | nil => cases h
    | cons kx ks =>
      cases kx with
      | none => cases h
      | some kx =>
        cases ks with
        | cons _ _ => cases h
        | nil =>
          cases vs with
          | nil => cases h
          | cons vx vs =>
            cases vs with
            | cons _ _ => cases h
            | nil =>
              simp only [okE, Bool.and_eq_true, Bool.not_eq_true'] at h
              obtain ⟨⟨rfl, h1⟩, h2⟩ := h
              exact sval (se_d1K (e_ok x c X G _ h1).1 (e_ok y c X G _ h2).1) (by simp only [tstE])
  | .bad, c, X, G, a, h => by
    have h0 : ∀ s, evalE (run P k) (refsOf P) .bad s = none := fun s => by rw [evalE]
    refine ⟨fun σ s F H f t s' Q r em q => ?_, fun _ => ⟨fun σ s F H f t s' Q r em q => ?_, fun _ _ _ _ σ s F H f t s' Q r em q => ?_⟩⟩
    · rw [h0] at em; cases em
    · simp only [h0] at em; cases em
    · simp only [h0] at em; cases em
theorem o_ok : ∀ (o : Oe) (c : CK) (X : Cx), Good P k c X → ∀ a : Option Expr, okO c o a = true → SO X a (evalO (run P k) (refsOf P) o)
  | .no, c, X, G, none, h => so_none
  | .no, c, X, G, some _, h => by cases h
  | .yes e, c, X, G, none, h => by cases h
  | .yes e, c, X, G, some a, h => so_some (e_ok e c X G a h).1
theorem es_ok : ∀ (es : Es) (c : CK) (X : Cx), Good P k c X → ∀ as : List Expr, okEs c es as = true → SEs X as (evalEs (run P k) (refsOf P) es)
  | .nil, c, X, G, [], h => ses_nil
  | .nil, c, X, G, _ :: _, h => by cases h
  | .cons e es, c, X, G, [], h => by cases h
  | .cons e es, c, X, G, a :: as, h => by
    simp only [okEs, Bool.and_eq_true] at h
    exact ses_cons (e_ok e c X G a h.1.1).1 (es_ok es c X G as h.2) (star_cons h.1.2 as X.env)
theorem ks_ok : ∀ (es : Es) (c : CK) (X : Cx), Good P k c X → ∀ kws : List Keyword, okEs c es (kws.map (·.value)) = true → SKs X kws (evalEs (run P k) (refsOf P) es)
  | .nil, c, X, G, [], h => sks_nil
  | .nil, c, X, G, _ :: _, h => by cases h
  | .cons e es, c, X, G, [], h => by cases h
  | .cons e es, c, X, G, ⟨nm, a, kp⟩ :: kws, h => by
    simp only [List.map_cons, okEs, Bool.and_eq_true] at h
    exact sks_cons (e_ok e c X G a h.1.1).1 (ks_ok es c X G kws h.2)
theorem as_ok : ∀ (as : As) (c : CK) (X : Cx), Good P k c X → ∀ es : List Expr, okAs c as es = true → SAs X as es (evalAs (run P k) (refsOf P) as)
  | .nil, c, X, G, [], h => sas_nil
  | .nil, c, X, G, _ :: _, h => by cases h
  | .ref i as, c, X, G, [], h => by cases h
  | .val e as, c, X, G, [], h => by cases h
  | .ref i as, c, X, G, a :: es, h => by
    cases a <;> first | (cases h; done) | skip
    simp only [okAs, Bool.and_eq_true] at h
    exact sas_ref G h.1 (as_ok as c X G es h.2)
  | .val e as, c, X, G, a :: es, h => by
    simp only [okAs, Bool.and_eq_true] at h
    exact sas_val h.1.2 (e_ok e c X G a h.1.1).1 (as_ok as c X G es h.2)
theorem b_ok : ∀ (b : Bs) (c : CK) (X : Cx), Good P k c X → ∀ a : Expr, okB c b a = true → SV1 X a (evalB (run P k) (refsOf P) b)
  | .pl p, c, X, G, a, h => sv_pl G h
  | .ex e, c, X, G, a, h => sv_ex (e_ok e c X G a h).1
theorem vs_ok : ∀ (vs : Vs) (c : CK) (X : Cx), Good P k c X → ∀ a b : Expr, okVs c vs [a, b] = true → SV2 X a b (evalVs (run P k) (refsOf P) vs) ∧ ∀ s ts s', evalVs (run P k) (refsOf P) vs s = some (ts, s') → ts.length = 2
  | .one a, c, X, G, x, y, h => by simp [okVs] at h
  | .two (.pl p) (.pl q), c, X, G, x, y, h => by
    simp only [okVs, okB, Bool.and_eq_true] at h
    refine ⟨sv2_pl G h.1.1.1 h.1.1.2, fun s ts s' e => ?_⟩
    simp only [evalVs] at e
    obtain ⟨_, _, e⟩ := Option.bind_eq_some_iff.mp e
    obtain ⟨_, _, e⟩ := Option.map_eq_some_iff.mp e
    cases e
    rfl
  | .two (.ex e) b, c, X, G, x, y, h => by
    simp only [okVs, okB, Bool.and_eq_true] at h
    refine ⟨sv2_ex (e_ok e c X G _ h.1.1.1).1 (b_ok b c X G _ h.1.1.2), fun s ts s' e => ?_⟩
    simp only [evalVs] at e
    obtain ⟨_, _, _, e⟩ := bnd_eq e
    obtain ⟨_, _, _, e⟩ := bnd_eq e
    cases e
    rfl
  | .two (.pl p) (.ex e), c, X, G, x, y, h => by
    simp only [okVs, okB, Bool.and_eq_true] at h
    have ih := (e_ok e c X G _ h.1.1.2).1
    refine ⟨?_, fun s ts s' e => ?_⟩
    · intro σ s F H f ts s' Q r em q
      simp only [evalVs] at em
      split at em
      · rename_i hv
        exact sv2_var G hv h.1.1.1 ih σ s F H f ts s' Q r em q
      · exact sv2_pure G h.1.1.1 h.1.1.2 σ s F H f ts s' Q r em q
    · simp only [evalVs] at e
      split at e
      · obtain ⟨_, _, e⟩ := Option.bind_eq_some_iff.mp e
        obtain ⟨_, _, _, e⟩ := bnd_eq e
        obtain ⟨_, _, e⟩ := Option.map_eq_some_iff.mp e
        cases e
        rfl
      · obtain ⟨_, _, e⟩ := Option.bind_eq_some_iff.mp e
        obtain ⟨_, _, e⟩ := Option.map_eq_some_iff.mp e
        cases e
        rfl
theorem ifs_ok : ∀ (es : Es) (c : CK) (X : Cx), Good P k c X → ∀ as : List Expr, okIfs c es as = true → STs X as (evalIfs (run P k) (refsOf P) es)
  | .nil, c, X, G, [], h => sts_nil
  | .nil, c, X, G, _ :: _, h => by cases h
  | .cons e .nil, c, X, G, [], h => by cases h
  | .cons e (.cons _ _), c, X, G, [], h => by cases h
  | .cons e (.cons _ _), c, X, G, [a], h => by cases h
  | .cons e (.cons _ _), c, X, G, _ :: _ :: _, h => by cases h
  | .cons e .nil, c, X, G, _ :: _ :: _, h => by cases h
  | .cons e .nil, c, X, G, [a], h => by
    simp only [okIfs, Bool.and_eq_true] at h
    exact sts_one ((e_ok e c X G a h.1).2 h.2).1
theorem src_ok : ∀ (it : Src) (c : CK) (X : Cx), Good P k c X → ∀ tg a : Expr, okSrc c tg it a = true → SSrc X tg a (evalSrc (run P k) (refsOf P) it)
  | .seq e, c, X, G, tg, a, h => ss_seq (e_ok e c X G a h).1
  | .rng1 e, c, X, G, tg, a, h => by
    cases a <;> first | (cases h; done) | skip
    rename_i fe as kws pos
    cases fe <;> first | (cases h; done) | skip
    cases as with
    | nil => cases h
    | cons a0 as =>
    cases as with
    | cons _ _ => cases h
    | nil =>
    cases kws with
    | cons _ _ => cases h
    | nil =>
    simp only [okSrc, Bool.and_eq_true, decide_eq_true_eq] at h
    exact ss_rng1 G h.1.1.1 h.1.1.2 h.2 (e_ok e c X G _ h.1.2).1
  | .rng2 e e2, c, X, G, tg, a, h => by
    cases a <;> first | (cases h; done) | skip
    rename_i fe as kws pos
    cases fe <;> first | (cases h; done) | skip
    cases as with
    | nil => cases h
    | cons a0 as =>
    cases as with
    | nil => cases h
    | cons a1 as =>
    cases as with
    | cons _ _ => cases h
    | nil =>
    cases kws with
    | cons _ _ => cases h
    | nil =>
    simp only [okSrc, Bool.and_eq_true, decide_eq_true_eq] at h
    obtain ⟨⟨⟨⟨⟨h1, h2⟩, h3⟩, h4⟩, h5⟩, h6⟩ := h
    exact ss_rng2 G h1 h2 h5 h6 (e_ok e c X G _ h3).1 (e_ok e2 c X G _ h4).1
  | .rng3 e e2 e3, c, X, G, tg, a, h => by
    cases a <;> first | (cases h; done) | skip
    rename_i fe as kws pos
    cases fe <;> first | (cases h; done) | skip
    cases as with
    | nil => cases h
    | cons a0 as =>
    cases as with
    | nil => cases h
    | cons a1 as =>
    cases as with
    | nil => cases h
    | cons a2 as =>
    cases as with
    | cons _ _ => cases h
    | nil =>
    cases kws with
    | cons _ _ => cases h
    | nil =>
    simp only [okSrc, Bool.and_eq_true, decide_eq_true_eq] at h
    obtain ⟨⟨⟨⟨⟨⟨⟨h1, h2⟩, h3⟩, h4⟩, h5⟩, h6⟩, h7⟩, h8⟩ := h
    exact ss_rng3 G h1 h2 h6 h7 h8 (e_ok e c X G _ h3).1 (e_ok e2 c X G _ h4).1 (e_ok e3 c X G _ h5).1
  | .enum e, c, X, G, tg, a, h => by
    cases a <;> first | (cases h; done) | skip
    rename_i fe as kws pos
    cases fe <;> first | (cases h; done) | skip
    cases as with
    | nil => cases h
    | cons a0 as =>
    cases as with
    | cons _ _ => cases h
    | nil =>
    cases kws with
    | cons _ _ => cases h
    | nil =>
    simp only [okSrc, Bool.and_eq_true, decide_eq_true_eq] at h
    obtain ⟨⟨⟨⟨h0, h1⟩, h2⟩, h3⟩, h4⟩ := h
    exact ss_enum G h1 h2 h4 h0 (e_ok e c X G _ h3).1
  | .zip e e2, c, X, G, tg, a, h => by
    cases a <;> first | (cases h; done) | skip
    rename_i fe as kws pos
    cases fe <;> first | (cases h; done) | skip
    cases as with
    | nil => cases h
    | cons a0 as =>
    cases as with
    | nil => cases h
    | cons a1 as =>
    cases as with
    | cons _ _ => cases h
    | nil =>
    cases kws with
    | cons _ _ => cases h
    | nil =>
    simp only [okSrc, Bool.and_eq_true, decide_eq_true_eq] at h
    obtain ⟨⟨⟨⟨⟨⟨h0, h1⟩, h2⟩, h3⟩, h4⟩, h5⟩, h6⟩ := h
    exact ss_zip G h1 h2 h5 h6 h0 (e_ok e c X G _ h3).1 (e_ok e2 c X G _ h4).1
theorem g_ok : ∀ (t : Tg) (c : CK) (X : Cx), Good P k c X → ∀ a : Expr, okT c t a = true → SG X a (tgIx t) (assT (run P k) (refsOf P) t)
  | .nm i, c, X, G, a, h => by
    cases a <;> first | (cases h; done) | skip
    exact sg_nm G h
  | .tp ts, c, X, G, a, h => by
    cases a <;> first | (cases h; done) | skip
    simp only [okT, Bool.and_eq_true] at h
    exact sg_tp G h.2 (fun ds s s' e => assTs_len h.1 e) (gs_ok ts c X G _ h.1 h.2)
  | .sub p ix, c, X, G, a, h => by
    cases a <;> first | (cases h; done) | skip
    simp only [okT, Bool.and_eq_true] at h
    have ih := (e_ok ix c X G _ h.1.2).1
    intro σ s F H f g v t s' Q sm ow sl nd em q
    rw [assT] at em
    split at em
    · rename_i hv
      exact sg_sub_var G hv h.1.1 ih h.2 σ s F H f g v t s' Q sm ow sl nd em q
    · exact sg_sub_path G h.1.1 h.1.2 h.2 σ s F H f g v t s' Q sm ow sl nd em q
theorem gs_ok : ∀ (ts : Tgs) (c : CK) (X : Cx), Good P k c X → ∀ as : List Expr, okTs c ts as = true → as.all plainX = true → SGs X as (tgsIx ts) (assTs (run P k) (refsOf P) ts)
  | .nil, c, X, G, [], h, hp => by
    intro σ s F H f vs ds s' Q r rp em q
    refine sgs_nil σ s F H f vs ds s' Q r rp ?_ q
    cases ds <;> simp only [assTs] at em ⊢ <;> first | exact em | cases em
  | .nil, c, X, G, _ :: _, h, hp => by cases h
  | .cons t ts, c, X, G, [], h, hp => by cases h
  | .cons t ts, c, X, G, a :: as, h, hp => by
    simp only [okTs, Bool.and_eq_true] at h
    rw [List.all_cons, Bool.and_eq_true] at hp
    have i1 := g_ok t c X G a h.1
    have i2 := gs_ok ts c X G as h.2 hp.2
    intro σ s F H f vs ds s' Q r rp em q
    refine sgs_cons hp.1 i1 i2 σ s F H f vs ds s' Q r rp ?_ q
    · cases ds <;> simp only [assTs] at em ⊢ <;> first | exact em | cases em
end
end
end Eng

/-! ### Eng23 -/
/-! Eng23: statements. -/
namespace Eng
open PySem PySem.Spec PyProof.Rows L2
/-- the lent parameters' slots stay -/
def Outs (fx : List Nat) (σ σ' : L2.St) : Prop := σ'.length = σ.length ∧ ∀ i ∈ fx, σ'[i]? = σ[i]?
theorem Outs.refl (fx : List Nat) (σ : L2.St) : Outs fx σ σ := ⟨rfl, fun _ _ => rfl⟩
theorem Outs.trans {fx : List Nat} {σ σ1 σ2 : L2.St} (a : Outs fx σ σ1) (b : Outs fx σ1 σ2) : Outs fx σ σ2 := ⟨b.1.trans a.1, fun i m => (b.2 i m).trans (a.2 i m)⟩
theorem Out.outs {ix fx : List Nat} {σ σ' : L2.St} (a : Out ix σ σ') (h : ∀ i ∈ ix, i ∉ fx) : Outs fx σ σ' := ⟨a.1, fun i m => a.2 i fun z => h i z m⟩
/-- the ends of a piece of code -/
def EndOk (K : PySem.W.Frag) (fx : List Nat) (F H : Hp) (f : List Addr) (σ : L2.St) (D : Ends) : R → Prop
  | .nx s' => ∀ σ' F' H' h, Step F H f F' H' h → Rel K F' H' σ' s' h → Outs fx σ σ' → D.nx σ' H'
  | .bk s' => ∀ σ' F' H' h, Step F H f F' H' h → Rel K F' H' σ' s' h → Outs fx σ σ' → D.bk σ' H'
  | .ct s' => ∀ σ' F' H' h, Step F H f F' H' h → Rel K F' H' σ' s' h → Outs fx σ σ' → D.ct σ' H'
  | .rt t s' => ∀ v σ' F' H' g h, Step F H f F' H' (g ++ h) → Own K F' H' v t g → Sls K F' H' σ' s' h → (g ++ h).Nodup → Outs fx σ σ' → D.rt v H'
theorem EndOk.on {K : PySem.W.Frag} {fx : List Nat} {F H F1 H1 : Hp} {f f1 : List Addr} {σ σ1 : L2.St} {D : Ends} {r : R} (e : EndOk K fx F H f σ D r) (st : Step F H f F1 H1 f1) (o : Outs fx σ σ1) : EndOk K fx F1 H1 f1 σ1 D r := by
  cases r with
  | nx s' => exact fun σ' F' H' h a b c => e σ' F' H' h (st.trans a) b (o.trans c)
  | bk s' => exact fun σ' F' H' h a b c => e σ' F' H' h (st.trans a) b (o.trans c)
  | ct s' => exact fun σ' F' H' h a b c => e σ' F' H' h (st.trans a) b (o.trans c)
  | rt t s' => exact fun v σ' F' H' g h a b c d o2 => e v σ' F' H' g h (st.trans a) b c d (o.trans o2)
def SSt (X : Cx) (fx : List Nat) (st : PySem.Stmt) (m : S → Option R) : Prop := ∀ (σ : L2.St) (s : S) (F H : Hp) (f : List Addr) (r : R) (D : Ends), Rel X.K F H σ s f → m s = some r → EndOk X.K fx F H f σ D r → sW X st D σ H
def SSts (X : Cx) (fx : List Nat) (sts : List PySem.Stmt) (m : S → Option R) : Prop := ∀ (σ : L2.St) (s : S) (F H : Hp) (f : List Addr) (r : R) (D : Ends), Rel X.K F H σ s f → m s = some r → EndOk X.K fx F H f σ D r → ssW X sts D σ H
section
variable {P : Prg} {k : Nat} {c : CK} {X : Cx} {fx : List Nat} {pos : Pos}
theorem sts_nilS : SSts X fx [] fun s => some (.nx s) := fun σ s F H f r D rel em e => by
  cases em
  exact ssW.of pss_nil (e σ F H f (Step.refl rel.same) rel (Outs.refl _ _))
theorem sts_consS {st : PySem.Stmt} {rest : List PySem.Stmt} {m1 m2 : S → Option R} (h1 : SSt X fx st m1) (h2 : SSts X fx rest m2) : SSts X fx (st :: rest) fun s => match m1 s with
    | some (.nx s) => m2 s
    | r => r := fun σ s F H f r D rel em e => by
  dsimp only at em
  refine ssW.of (pss_cons ps_w pss_w) ?_
  split at em
  · rename_i s1 e1
    exact h1 σ s F H f _ _ rel e1 fun σ' F' H' h st r1 o => h2 σ' s1 F' H' h r D r1 em (e.on st o)
  · rename_i hx
    refine h1 σ s F H f r _ rel em ?_
    cases r with
    | nx s' => exact absurd em (hx s')
    | bk s' => exact e
    | ct s' => exact e
    | rt t s' => exact e
theorem st_pass : SSt X fx (.Pass pos) fun s => some (.nx s) := fun σ s F H f r D rel em e => by
  cases em
  exact sW.of ps_pass (e σ F H f (Step.refl rel.same) rel (Outs.refl _ _))
theorem st_brk : SSt X fx (.Break pos) fun s => some (.bk s) := fun σ s F H f r D rel em e => by
  cases em
  exact sW.of ps_break (e σ F H f (Step.refl rel.same) rel (Outs.refl _ _))
theorem st_cont : SSt X fx (.Continue pos) fun s => some (.ct s) := fun σ s F H f r D rel em e => by
  cases em
  exact sW.of ps_continue (e σ F H f (Step.refl rel.same) rel (Outs.refl _ _))
theorem st_retN : SSt X fx (.Return none pos) fun s => some (.rt (.dat .none) s) := fun σ s F H f r D rel em e => by
  cases em
  exact sW.of ps_retN (e .non σ F H [] f (Step.refl rel.same) (.dat .non) rel.sl rel.nd (Outs.refl _ _))
theorem st_ret {a : Expr} {m : S → Option (T × S)} (h : SE X a m) : SSt X fx (.Return (some a) pos) fun s => bnd (m s) fun t s => some (.rt t s) := fun σ s F H f r D rel em e => by
  obtain ⟨t, s1, e1, em⟩ := bnd_eq em
  cases em
  exact sW.of (ps_ret pe_w) (h σ s F H f t s1 _ rel e1 fun v F' H' g h p => e v σ F' H' g h p.step p.own p.sl p.nd (Outs.refl _ _))
theorem st_expr {a : Expr} {m : S → Option (T × S)} (hc : isComp a = false) (h : SE X a m) : SSt X fx (.Expr a pos) fun s => bnd (m s) fun _ s => some (.nx s) := fun σ s F H f r D rel em e => by
  obtain ⟨t, s1, e1, em⟩ := bnd_eq em
  cases em
  exact sW.of (ps_expr pe_w (noComp_sw hc _ _ _)) (h σ s F H f t s1 _ rel e1 fun v F' H' g h p => e σ F' H' h (p.step.mono (fun b m => m) fun b m => List.mem_append_right _ m) p.rel (Outs.refl _ _))
theorem st_ifS {a : Expr} {b d : List PySem.Stmt} {mt : S → Option (Bool × S)} {m1 m2 : S → Option R} (ht : ST X a mt) (h1 : SSts X fx b m1) (h2 : SSts X fx d m2) : SSt X fx (.If a b d pos) fun s => bnd (mt s) fun k s => if k then m1 s else m2 s := fun σ s F H f r D rel em e => by
  obtain ⟨kk, s1, e1, em⟩ := bnd_eq em
  refine sW.of (ps_if pt_w pss_w pss_w) (ht σ s F H f kk s1 _ rel e1 fun F' H' h st r1 => ?_)
  cases kk with
  | true =>
    rw [if_pos rfl] at em ⊢
    exact h1 σ s1 F' H' h r D r1 em (e.on st (Outs.refl _ _))
  | false =>
    rw [if_neg Bool.false_ne_true] at em ⊢
    exact h2 σ s1 F' H' h r D r1 em (e.on st (Outs.refl _ _))
theorem st_asg {a tg : Expr} {ix : List Nat} {m : S → Option (T × S)} {asg : T → S → Option S} (h : SE X a m) (hg : SG X tg ix asg) (hix : ∀ i ∈ ix, i ∉ fx) (hp : plainX tg = true) (hs : swapsWithSole [tg] a pos.line X.env = pure false) (hw : swappedStores [tg] a X.env = pure none) :
    SSt X fx (.Assign [tg] a pos) fun s => bnd (m s) fun u s => (asg u s).map .nx := fun σ s F H f r D rel em e => by
  obtain ⟨t, s1, e1, em⟩ := bnd_eq em
  obtain ⟨s2, e2, e3⟩ := Option.map_eq_some_iff.mp em
  subst e3
  refine sW.of (ps_asg pe_w pg_w hs hw (by rw [ass_cons hp]; rfl)) (h σ s F H f t s1 _ rel e1 fun v F' H' g h p => ?_)
  exact hg σ s1 F' H' h g v t s2 _ p.step.fh p.own p.sl p.nd e2 fun σ' F2 H2 h2 st2 r2 o2 => e σ' F2 H2 h2 (p.step.trans st2) r2 (o2.outs hix)
theorem st_for {a tg : Expr} {body : List PySem.Stmt} {ix : List Nat} {src : S → Option (List D × S)} {asg : T → S → Option S} {mb : S → Option R} (hcalm : X.calm = true) (hxe : X.xe = fun _ _ => False) (hs : SSrc X tg a src) (hg : SG X tg ix asg) (hb : SSts X fx body mb) (hix : ∀ i ∈ ix, i ∉ fx) (hp : plainX a = true) :
    SSt X fx (.For tg a body [] pos) fun s => bnd (src s) fun ds s => forL (fun d s => asg (.dat d) s) mb ds s := fun σ s F H f r D rel em e => by
  obtain ⟨ds, s1, e1, em⟩ := bnd_eq em
  refine sW.of (ps_for (by rw [hxe]; exact PassesOwn.never) hcalm pi_w pg_w pss_w (fun x => plain_fold hp _ x)) (hs σ s F H f ds s1 _ rel e1 fun J F1 H1 h1 st1 r1 wk => ?_)
  let Pv : Nat → L2.St → Hp → Prop := fun i σ' H' => ∃ s' F' h', Step F H f F' H' h' ∧ Rel X.K F' H' σ' s' h' ∧ Outs fx σ σ' ∧ Same F1 F' ∧ forL (fun d s => asg (.dat d) s) mb (ds.drop i) s' = some r
  refine ⟨fun i m σ' H' => m = ds.length - i ∧ i ≤ ds.length ∧ Pv i σ' H', ⟨ds.length, by simp, Nat.zero_le _, s1, F1, h1, st1, r1, Outs.refl _ _, Same.refl _, by simpa using em⟩, ?_⟩
  rintro i m σ' H' ⟨rfl, hi, s', F', h', st', r', o', ff, em'⟩
  by_cases hlt : i < ds.length
  case neg =>
    have ei : i = ds.length := by omega
    subst ei
    rw [List.drop_length] at em'
    cases em'
    exact .inl ⟨wk.stop F' H' ff r'.same, e σ' F' H' h' st' r' o'⟩
  refine .inr ⟨wk.go F' H' i ff r'.same hlt, fun σ2 H2 => Pv (i + 1) σ2 H2, fun σ2 H2 p' => ⟨ds.length - (i + 1), by omega, rfl, hlt, p'⟩, fun x H2 y => ?_⟩
  obtain ⟨F2, d, st2, hd, rd⟩ := wk.yld F' H' i x H2 ff r'.same hlt y
  have hdrop : ds.drop i = d :: ds.drop (i + 1) := by
    obtain ⟨z1, z2⟩ := List.getElem?_eq_some_iff.mp hd
    rw [← z2]
    exact List.drop_eq_getElem_cons z1
  rw [hdrop] at em'
  simp only [forL] at em'
  obtain ⟨sa, ea, em'⟩ := Option.bind_eq_some_iff.mp em'
  obtain ⟨r2, st2'⟩ := r'.step0 st2
  refine hg σ' s' F2 H2 h' [] x (.dat d) sa _ st2.fh (.dat rd) r2.sl (by simpa using r2.nd) ea fun σ3 F3 H3 h3 st3 r3 o3 => ?_
  have stA : Step F H f F3 H3 h3 := (st'.trans st2').trans (by simpa using st3)
  have oA : Outs fx σ σ3 := o'.trans (o3.outs hix)
  have ffA : Same F1 F3 := ff.trans (st2.ff.trans st3.ff)
  cases hm : mb sa with
  | none => rw [hm] at em'; cases em'
  | some rr =>
    rw [hm] at em'
    refine hb σ3 sa F3 H3 h3 rr _ r3 hm ?_
    cases rr with
    | nx s4 => exact fun σ4 F4 H4 h4 st4 r4 o4 => ⟨s4, F4, h4, stA.trans st4, r4, oA.trans o4, ffA.trans st4.ff, em'⟩
    | ct s4 => exact fun σ4 F4 H4 h4 st4 r4 o4 => ⟨s4, F4, h4, stA.trans st4, r4, oA.trans o4, ffA.trans st4.ff, em'⟩
    | bk s4 =>
      cases em'
      exact fun σ4 F4 H4 h4 st4 r4 o4 => e σ4 F4 H4 h4 (stA.trans st4) r4 (oA.trans o4)
    | rt t s4 =>
      cases em'
      exact fun v σ4 F4 H4 g4 h4 st4 ow sl nd o4 => e v σ4 F4 H4 g4 h4 (stA.trans st4) ow sl nd (oA.trans o4)
theorem st_while {a : Expr} {body : List PySem.Stmt} {mt : S → Option (Bool × S)} {mb : S → Option R} {W : Nat} (hxe : X.xe = fun _ _ => False) (ht : ST X a mt) (hb : SSts X fx body mb) :
    SSt X fx (.While a body [] pos) fun s => whileL mt mb W s := fun σ s F H f r D rel em e => by
  refine sW.of (ps_while (by rw [hxe]; exact PassesOwn.never) pt_w pss_w) ?_
  refine ⟨fun m σ' H' => ∃ s' F' h', Step F H f F' H' h' ∧ Rel X.K F' H' σ' s' h' ∧ Outs fx σ σ' ∧ whileL mt mb m s' = some r, ⟨W, s, F, f, Step.refl rel.same, rel, Outs.refl _ _, em⟩, ?_⟩
  rintro m σ' H' ⟨s', F', h', st', r', o', em'⟩
  cases m with
  | zero => cases em'
  | succ n =>
    simp only [whileL] at em'
    obtain ⟨b, s1, e1, em'⟩ := bnd_eq em'
    refine ht σ' s' F' H' h' b s1 _ r' e1 fun F1 H1 h1 st1 r1 => ?_
    cases b with
    | false =>
      rw [if_neg Bool.false_ne_true] at em' ⊢
      cases em'
      exact e σ' F1 H1 h1 (st'.trans st1) r1 o'
    | true =>
      rw [if_pos rfl] at em' ⊢
      refine ⟨fun σ2 H2 => ∃ s' F' h', Step F H f F' H2 h' ∧ Rel X.K F' H2 σ2 s' h' ∧ Outs fx σ σ2 ∧ whileL mt mb n s' = some r, fun σ2 H2 h => ⟨n, Nat.lt_succ_self n, h⟩, ?_⟩
      cases hm : mb s1 with
      | none => rw [hm] at em'; cases em'
      | some rr =>
        rw [hm] at em'
        refine hb σ' s1 F1 H1 h1 rr _ r1 hm ?_
        cases rr with
        | nx s4 => exact fun σ4 F4 H4 h4 st4 r4 o4 => ⟨s4, F4, h4, (st'.trans st1).trans st4, r4, o'.trans o4, em'⟩
        | ct s4 => exact fun σ4 F4 H4 h4 st4 r4 o4 => ⟨s4, F4, h4, (st'.trans st1).trans st4, r4, o'.trans o4, em'⟩
        | bk s4 =>
          cases em'
          exact fun σ4 F4 H4 h4 st4 r4 o4 => e σ4 F4 H4 h4 ((st'.trans st1).trans st4) r4 (o'.trans o4)
        | rt t s4 =>
          cases em'
          exact fun v σ4 F4 H4 g4 h4 st4 ow sl nd o4 => e v σ4 F4 H4 g4 h4 ((st'.trans st1).trans st4) ow sl nd (o'.trans o4)
end
end Eng

/-! ### Eng24 -/
set_option maxHeartbeats 4000000
/-! Eng24: pairs stored at once; a comprehension stored; all statements. -/
namespace Eng
open PySem PySem.Spec PyProof.Rows L2
def locB (c : CK) (x : Str) : Bool := decide (c.sc.names.lookup x = some .local)
/-- a comprehension that is stored on its own line -/
def swB (sc : Scope) (y : Str) (py : Pos) : Expr → Bool
  | .ListComp _ _ scope pos => (sc.names.lookup y == some .local) && (py.line == pos.line) && !(scope.names.any fun (n, k) => n == y && (k == .local || k == .cell))
  | _ => false
def asgB (c : CK) (tg v : Expr) : Bool := if isComp v then (match tg, v with
    | .Name _ _, .ListComp _ _ _ _ => true
    | .Subscript _ _ _, .ListComp _ _ _ _ => true
    | _, _ => false) else decide (swapD c.sc tg v = some none)
mutual
def okS (c : CK) : Cmd → PySem.Stmt → Bool
  | .asg t e, .Assign [tg] v _ => okT c t tg && plainX tg && okE c e v && asgB c tg v
  | .par i j a b, .Assign [.Tuple [.Name x px, .Name y py] kt pt] (.Tuple [a', b'] k2 pt2) _ => tgB c i x && tgB c j y && decide (i ≠ j) && locB c x && locB c y && decide (swapD c.sc (.Tuple [.Name x px, .Name y py] kt pt) (.Tuple [a', b'] k2 pt2) = some (some [x, y])) && okE c a a' && okE c b b' && plainX a' && plainX b'
  | .par3 i j l a b d, .Assign [.Tuple [.Name x px, .Name y py, .Name z pz] kt pt] (.Tuple [a', b', d'] k2 pt2) _ => tgB c i x && tgB c j y && tgB c l z && decide (i ≠ j) && decide (i ≠ l) && decide (j ≠ l) && locB c x && locB c y && locB c z && decide (swapD c.sc (.Tuple [.Name x px, .Name y py, .Name z pz] kt pt) (.Tuple [a', b', d'] k2 pt2) = some (some [x, y, z])) && okE c a a' && okE c b b' && okE c d d' && plainX a' && plainX b' && plainX d'
  | .parT i j a b, .Assign [.Tuple [.Name x px, .Name y py] kt pt] (.Tuple [a', b'] k2 pt2) _ => tgB c i x && tgB c j y && decide (swapD c.sc (.Tuple [.Name x px, .Name y py] kt pt) (.Tuple [a', b'] k2 pt2) = some none) && okE c a a' && okE c b b' && plainX a' && plainX b'
  | .expr e, .Expr v _ => okE c e v && !isComp v
  | .ife t a b, .If t' a' b' _ => okE c t t' && tstE t t' && okSs c a a' && okSs c b b'
  | .forS t it body, .For tg iter body' [] _ => okT c t tg && okSrc c tg it iter && plainX iter && okSs c body body'
  | .whil t body, .While t' body' [] _ => okE c t t' && tstE t t' && okSs c body body'
  | .ret e, .Return (some v) _ => okE c e v
  | .retN, .Return none _ => true
  | .brk, .Break _ => true
  | .cont, .Continue _ => true
  | .pas, .Pass _ => true
  | .bad, _ => true
  | _, _ => false
def okSs (c : CK) : Cmds → List PySem.Stmt → Bool
  | .nil, [] => true
  | .cons st ss, a :: as => okS c st a && okSs c ss as
  | _, _ => false
end
mutual
theorem okT_fx {c : CK} : ∀ (t : Tg) (a : Expr), okT c t a = true → ∀ i ∈ tgIx t, i ∉ c.fx
  | .nm i, a, h, j, m => by
    cases a <;> first | (cases h; done) | skip
    have h : tgB c i _ = true := h
    unfold tgB at h
    simp only [Bool.and_eq_true, Bool.not_eq_true'] at h
    have e : j = i := by simpa [tgIx] using m
    subst e
    intro z
    have := h.1.2
    simp [z] at this
  | .tp ts, a, h, j, m => by
    cases a <;> first | (cases h; done) | skip
    simp only [okT, Bool.and_eq_true] at h
    exact okTs_fx ts _ h.1 j m
  | .sub p ix, a, h, j, m => by simp [tgIx] at m
theorem okTs_fx {c : CK} : ∀ (ts : Tgs) (as : List Expr), okTs c ts as = true → ∀ i ∈ tgsIx ts, i ∉ c.fx
  | .nil, _, h, j, m => by simp [tgsIx] at m
  | .cons t ts, [], h, j, m => by cases h
  | .cons t ts, a :: as, h, j, m => by
    simp only [okTs, Bool.and_eq_true] at h
    simp only [tgsIx, List.mem_append] at m
    rcases m with m | m
    · exact okT_fx t a h.1 j m
    · exact okTs_fx ts as h.2 j m
end
section
variable {P : Prg} {k : Nat} {c : CK} {X : Cx} {pos : Pos}
theorem lc_goal (G : Good P k c X) {elt' tg' iter' : Expr} {ifs' : List Expr} {scope : Scope} {own ix : List Nat} {asg : T → S → Option S} {test : S → Option (Bool × S)} {elt : S → Option (T × S)} {src : S → Option (List D × S)}
    (hown : ownOk c scope own = true) (hix : ∀ j ∈ ix, j ∈ own) (hsrc : SSrc X tg' iter' src)
    (hg : ∀ X', Good P k (c.inner scope) X' → SG X' tg' ix asg) (ht : ∀ X', Good P k (c.inner scope) X' → STs X' ifs' test) (he : ∀ X', Good P k (c.inner scope) X' → SE X' elt' elt)
    {σ : L2.St} {s s' : S} {F H : Hp} {f : List Addr} {t : T} {Q : VK} (r : Rel X.K F H σ s f) (em : (bnd (src s) fun ds s => if ownFree s own then bnd (compL (fun d s => asg (.dat d) (wipeS s own)) test elt ds s []) fun ts s1 => some (.lst ts, backS s (wipeS s1 own) own) else none) = some (t, s'))
    (q : ∀ v F' H' g h, Post X.K F H f σ v t s' F' H' g h → Q v H') :
    BlkOk X.N X.env.scope scope (own.map fun i => (c.N.getD i "", i)) ∧ tLc (iW X tg' iter') (fun v σ H Q => ∀ i : Fam, gW (blkF X scope i) tg' v σ H Q) (fun σ H Q => ∀ i : Fam, tsW (blkF X scope i) ifs' σ H Q) (fun σ H Q => ∀ i : Fam, tW (blkF X scope i) elt' σ H Q) ((own.map fun i => (c.N.getD i "", i)).map (·.2)) σ H Q := by
  obtain ⟨ds, s1, e1, em⟩ := bnd_eq em
  split at em
  · rename_i hfree
    obtain ⟨tsF, sF, e2, em⟩ := bnd_eq em
    cases em
    unfold ownOk at hown
    rw [Bool.and_eq_true] at hown
    have ok : BlkOk X.N X.env.scope scope (own.map fun i => (c.N.getD i "", i)) := by
      rw [G.N, G.sc]
      exact blkOk_by hown.2
    have hmap : ((own.map fun i => (c.N.getD i "", i)).map (·.2)) = own := by
      rw [List.map_map]
      exact List.map_id own
    have GG : ∀ i : Fam, Good P k (c.inner scope) (blkF X scope i) := fun i => G.inner ok.kind _ _ _ _ _
    refine ⟨ok, ?_⟩
    rw [hmap]
    refine hsrc σ s F H f ds s1 _ r e1 fun J F1 H1 h1 st r1 wk Dd hD => ?_
    exact comp_ok (X := X) (fun i => rfl) (fun i => hg _ (GG i)) (fun i => ht _ (GG i)) (fun i => he _ (GG i)) hix r1 wk e2 hD fun H2 tn => by
      obtain ⟨F', g, h, p⟩ := comp_end st r1 hfree tn
      exact q _ F' H2 g h p
  · cases em
theorem st_setLc (G : Good P k c X) {i : Nat} {y : Str} {py lpos : Pos} {elt' tg' iter' : Expr} {ifs' : List Expr} {scope : Scope} {own ix : List Nat} {asg : T → S → Option S} {test : S → Option (Bool × S)} {elt : S → Option (T × S)} {src : S → Option (List D × S)}
    (hty : tgB c i y = true) (hsw : swB c.sc y py (.ListComp elt' [⟨tg', iter', ifs', 0⟩] scope lpos) = true) (hown : ownOk c scope own = true) (hp : plainX iter' = true) (hix : ∀ j ∈ ix, j ∈ own) (hsrc : SSrc X tg' iter' src)
    (hg : ∀ X', Good P k (c.inner scope) X' → SG X' tg' ix asg) (ht : ∀ X', Good P k (c.inner scope) X' → STs X' ifs' test) (he : ∀ X', Good P k (c.inner scope) X' → SE X' elt' elt) :
    SSt X c.fx (.Assign [.Name y py] (.ListComp elt' [⟨tg', iter', ifs', 0⟩] scope lpos) pos) fun s => bnd (bnd (src s) fun ds s => if ownFree s own then bnd (compL (fun d s => asg (.dat d) (wipeS s own)) test elt ds s []) fun ts s1 => some (.lst ts, backS s (wipeS s1 own) own) else none) fun u s => (some (s.set i (some u))).map .nx := fun σ s F H f r D rel em e => by
  obtain ⟨t, s1, e1, em⟩ := bnd_eq em
  cases em
  unfold swB at hsw
  simp only [Bool.and_eq_true, Bool.not_eq_true'] at hsw
  obtain ⟨⟨h1, h2⟩, h3⟩ := hsw
  have hloc : c.sc.names.lookup y = some .local := eq_of_beq h1
  have hfx : i ∉ c.fx := (G.tg (pos := py) hty).2.1
  have key := lc_goal G hown hix hsrc hg ht he (Q := fun x H1 => gName i x σ H1 D.nx) rel e1 fun v F' H' g h p => by
    obtain ⟨h4, z1, z2, z3⟩ := Sls.store (i := i) p.sl p.own p.nd
    exact e (σ.set i (some v)) F' H' h4 (p.step.mono (fun b m => m) z2) ⟨p.step.fh, z1, z3⟩ ((Out.set i _ σ).outs fun j m => by
      have : j = i := by simpa using m
      rw [this]; exact hfx)
  exact sW.of (ps_setLc (wi := iW X tg' iter') (g := fun v σ H Q => ∀ i : Fam, gW (blkF X scope i) tg' v σ H Q) (tt := fun σ H Q => ∀ i : Fam, tsW (blkF X scope i) ifs' σ H Q) (te := fun σ H Q => ∀ i : Fam, tW (blkF X scope i) elt' σ H Q) G.calm (by rw [G.N]; exact G.nd)
    (by rw [G.N]; exact (G.tg (pos := py) hty).2.2) (by rw [G.sc]; exact hloc) (sw_true (by rw [G.sc]; exact G.kind) (by rw [G.sc]; exact hloc) h2 h3) pi_w key.1
      (fun s H C cl fp => ⟨fun pins s1 σ H1 v u Q I rr h => h (s, H, C, cl, fp) pins s1 u I rr⟩) (fun s H C cl fp => ⟨fun pins s1 σ H1 Q I h => h (s, H, C, cl, fp) pins s1 I⟩) (fun s H C cl fp => ⟨fun pins s1 σ H1 Q I h => h (s, H, C, cl, fp) pins s1 I⟩) (fun x => plain_fold hp _ x)) key.2
theorem sw_false (G : Good P k c X) {y : Str} {py lpos : Pos} {elt : Expr} {gs : List Comprehension} {scope : Scope} {l : Nat} (h : swB c.sc y py (.ListComp elt gs scope lpos) = false) : swapsWith (.ListComp elt gs scope lpos) (some (.Name y py)) l X.env = pure false := by
  have e : swapsWith (.ListComp elt gs scope lpos) (some (.Name y py)) l X.env = pure (X.env.blockKind == .function && X.env.kindOf y == some .local && py.line == lpos.line && !(scope.names.any fun (n, k) => n == y && (k == .local || k == .cell))) := rfl
  rw [e]
  have hb : X.env.blockKind = .function := by unfold Env.blockKind; rw [G.sc, G.kind]; rfl
  have hk : X.env.kindOf y = c.sc.names.lookup y := by rw [← G.sc]; rfl
  rw [hb, hk]
  unfold swB at h
  have : ((ScopeKind.function == ScopeKind.function) && c.sc.names.lookup y == some .local && py.line == lpos.line && !(scope.names.any fun (n, k) => n == y && (k == .local || k == .cell))) = false := by
    rw [show (ScopeKind.function == ScopeKind.function) = true from rfl, Bool.true_and]
    exact h
  rw [this]

theorem swap_none (G : Good P k c X) {tg v : Expr} (h : swapD c.sc tg v = some none) : swappedStores [tg] v X.env = pure none := swapD_ok h G.sc (by rw [G.sc]; exact G.kind)
theorem st_par (G : Good P k c X) {i j : Nat} {x y : Str} {px py pt pt2 : Pos} {kt k2} {a b : Expr} {ma mb : S → Option (T × S)} (hx : tgB c i x = true) (hy : tgB c j y = true) (hij : i ≠ j) (lx : locB c x = true) (ly : locB c y = true)
    (hs : swapD c.sc (.Tuple [.Name x px, .Name y py] kt pt) (.Tuple [a, b] k2 pt2) = some (some [x, y])) (pa : plainX a = true) (pb : plainX b = true) (ha : SE X a ma) (hb : SE X b mb) :
    SSt X c.fx (.Assign [.Tuple [.Name x px, .Name y py] kt pt] (.Tuple [a, b] k2 pt2) pos) fun s => bnd (ma s) fun x s => bnd (mb s) fun y s => some (.nx ((s.set i (some x)).set j (some y))) := fun σ s F H f r D rel em e => by
  obtain ⟨t1, s1, e1, em⟩ := bnd_eq em
  obtain ⟨t2, s2, e2, em⟩ := bnd_eq em
  cases em
  unfold locB at lx ly
  simp only [decide_eq_true_eq] at lx ly
  refine sW.of (ps_par G.calm (by rw [G.N]; exact G.nd) (by rw [G.N]; exact (G.tg (pos := px) hx).2.2) (by rw [G.N]; exact (G.tg (pos := py) hy).2.2) hij (by rw [G.sc]; exact lx) (by rw [G.sc]; exact ly) (pa_cons pe_w (pa_cons pe_w pa_nil (star_cons pb [] X.env)) (star_cons pa _ X.env))
    (swapD_ok hs G.sc (by rw [G.sc]; exact G.kind)) rfl) (ha σ s F H f t1 s1 _ rel e1 fun v F1 H1 g1 h1 p1 => hb σ s1 F1 H1 h1 t2 s2 _ p1.rel e2 fun w F2 H2 g2 h2 p2 => ⟨v, w, rfl, ?_⟩)
  obtain ⟨o1, n1, st1⟩ := p1.on p2
  have n1' : (g1 ++ h2).Nodup := nd_app (List.nodup_append.mp n1).1 (List.nodup_append.mp p2.nd).2.1 fun b m z => nd_apart' n1 b m (List.mem_append_right _ z)
  obtain ⟨h3, z1, z2, z3⟩ := Sls.store (i := i) p2.sl o1 n1'
  have n2 : (g2 ++ h3).Nodup := nd_app (List.nodup_append.mp p2.nd).1 z3 fun b m z => by
    rcases List.mem_append.mp (z2 b z) with z | z
    · exact nd_apart' n1 b z (List.mem_append_left _ m)
    · exact nd_apart' p2.nd b m z
  obtain ⟨h4, y1, y2, y3⟩ := Sls.store (i := j) z1 p2.own n2
  have fi := (G.tg (pos := px) hx).2.1
  have fj := (G.tg (pos := py) hy).2.1
  refine e _ F2 H2 h4 (st1.mono (fun b m => m) fun b m => ?_) ⟨p2.step.fh, y1, y3⟩ (((Out.set i (some v) σ).outs fun l m => by
      have : l = i := by simpa using m
      rw [this]; exact fi).trans ((Out.set j (some w) _).outs fun l m => by
      have : l = j := by simpa using m
      rw [this]; exact fj))
  rcases List.mem_append.mp (y2 b m) with m | m
  · exact List.mem_append_right _ (List.mem_append_left _ m)
  · rcases List.mem_append.mp (z2 b m) with m | m
    · exact List.mem_append_left _ m
    · exact List.mem_append_right _ (List.mem_append_right _ m)
/-- a pair built, then taken apart: its items may be owned -/
theorem st_parT (G : Good P k c X) {i j : Nat} {x y : Str} {px py pt pt2 : Pos} {kt k2} {a b : Expr} {ma mb : S → Option (T × S)} (hx : tgB c i x = true) (hy : tgB c j y = true)
    (hs : swapD c.sc (.Tuple [.Name x px, .Name y py] kt pt) (.Tuple [a, b] k2 pt2) = some none) (pa : plainX a = true) (pb : plainX b = true) (ha : SE X a ma) (hb : SE X b mb) :
    SSt X c.fx (.Assign [.Tuple [.Name x px, .Name y py] kt pt] (.Tuple [a, b] k2 pt2) pos) fun s => bnd (ma s) fun x s => bnd (mb s) fun y s => some (.nx ((s.set i (some x)).set j (some y))) := fun σ s F H f r D rel em e => by
  obtain ⟨t1, s1, e1, em⟩ := bnd_eq em
  obtain ⟨t2, s2, e2, em⟩ := bnd_eq em
  cases em
  refine sW.of (ps_asg (pe_tup (pa_cons pe_w (pa_cons pe_w pa_nil (star_cons pb [] X.env)) (star_cons pa _ X.env))) (pg_tup (n := 2) G.calm (pgs_cons (G.tg (pos := px) hx).1 (pgs_cons (G.tg (pos := py) hy).1 pgs_nil))) rfl (swapD_ok hs G.sc (by rw [G.sc]; exact G.kind)))
    (ha σ s F H f t1 s1 _ rel e1 fun v F1 H1 g1 h1 p1 => hb σ s1 F1 H1 h1 t2 s2 _ p1.rel e2 fun w F2 H2 g2 h2 p2 => ⟨by show 2 ≤ sizeLine; decide, fun p n => ⟨p, [v, w], rfl, SqT.of upd_same, rfl, v, [w], rfl, w, [], rfl, rfl, ?_⟩⟩)
  obtain ⟨o1, n1, st1⟩ := p1.on p2
  have stX : Step F2 H2 (g1 ++ (g2 ++ h2)) F2 (upd H2 p (.tup [v, w])) (g1 ++ (g2 ++ h2)) := (Step.newO p2.step.fh n).mono (fun b m => m) fun b m => List.mem_cons_of_mem _ m
  have kx : ∀ l : List Addr, (∀ b ∈ l, F2 b = none ∧ ∃ o, H2 b = some o ∧ Mut (some o)) → Keeps F2 H2 F2 (upd H2 p (.tup [v, w])) l := fun l hl => ⟨Same.refl _, fun b m => ⟨upd_ne (fun z => by obtain ⟨_, o, q, _⟩ := hl b m; rw [z, n] at q; cases q), (hl b m).1⟩⟩
  have o1' := o1.keep (kx g1 fun b m => o1.has b m)
  have o2' := p2.own.keep (kx g2 fun b m => p2.own.has b m)
  have sl' := p2.sl.keep (kx h2 fun b m => p2.sl.has b m)
  have n1' : (g1 ++ h2).Nodup := nd_app (List.nodup_append.mp n1).1 (List.nodup_append.mp p2.nd).2.1 fun b m z => nd_apart' n1 b m (List.mem_append_right _ z)
  obtain ⟨h3, z1, z2, z3⟩ := Sls.store (i := i) sl' o1' n1'
  have n2 : (g2 ++ h3).Nodup := nd_app (List.nodup_append.mp p2.nd).1 z3 fun b m z => by
    rcases List.mem_append.mp (z2 b z) with z | z
    · exact nd_apart' n1 b z (List.mem_append_left _ m)
    · exact nd_apart' p2.nd b m z
  obtain ⟨h4, y1, y2, y3⟩ := Sls.store (i := j) z1 o2' n2
  have fi := (G.tg (pos := px) hx).2.1
  have fj := (G.tg (pos := py) hy).2.1
  refine e _ F2 _ h4 ((st1.trans stX).mono (fun b m => m) fun b m => ?_) ⟨stX.fh, y1, y3⟩ (((Out.set i (some v) σ).outs fun l m => by
      have : l = i := by simpa using m
      rw [this]; exact fi).trans ((Out.set j (some w) _).outs fun l m => by
      have : l = j := by simpa using m
      rw [this]; exact fj))
  rcases List.mem_append.mp (y2 b m) with m | m
  · exact List.mem_append_right _ (List.mem_append_left _ m)
  · rcases List.mem_append.mp (z2 b m) with m | m
    · exact List.mem_append_left _ m
    · exact List.mem_append_right _ (List.mem_append_right _ m)
theorem st_par3 (G : Good P k c X) {i j l : Nat} {x y z : Str} {px py pz pt pt2 : Pos} {kt k2} {a b d : Expr} {ma mb md : S → Option (T × S)} (hx : tgB c i x = true) (hy : tgB c j y = true) (hz : tgB c l z = true) (hij : i ≠ j) (hil : i ≠ l) (hjl : j ≠ l) (lx : locB c x = true) (ly : locB c y = true) (lz : locB c z = true)
    (hs : swapD c.sc (.Tuple [.Name x px, .Name y py, .Name z pz] kt pt) (.Tuple [a, b, d] k2 pt2) = some (some [x, y, z])) (pa : plainX a = true) (pb : plainX b = true) (pd : plainX d = true) (ha : SE X a ma) (hb : SE X b mb) (hd : SE X d md) :
    SSt X c.fx (.Assign [.Tuple [.Name x px, .Name y py, .Name z pz] kt pt] (.Tuple [a, b, d] k2 pt2) pos) fun s => bnd (ma s) fun x s => bnd (mb s) fun y s => bnd (md s) fun z s => some (.nx (((s.set i (some x)).set j (some y)).set l (some z))) := fun σ s F H f r D rel em e => by
  obtain ⟨t1, s1, e1, em⟩ := bnd_eq em
  obtain ⟨t2, s2, e2, em⟩ := bnd_eq em
  obtain ⟨t3, s3, e3, em⟩ := bnd_eq em
  cases em
  unfold locB at lx ly lz
  simp only [decide_eq_true_eq] at lx ly lz
  refine sW.of (ps_par3 G.calm (by rw [G.N]; exact G.nd) (by rw [G.N]; exact (G.tg (pos := px) hx).2.2) (by rw [G.N]; exact (G.tg (pos := py) hy).2.2) (by rw [G.N]; exact (G.tg (pos := pz) hz).2.2) hij hil hjl (by rw [G.sc]; exact lx) (by rw [G.sc]; exact ly) (by rw [G.sc]; exact lz)
    (pa_cons pe_w (pa_cons pe_w (pa_cons pe_w pa_nil (star_cons pd [] X.env)) (star_cons pb _ X.env)) (star_cons pa _ X.env)) (swapD_ok hs G.sc (by rw [G.sc]; exact G.kind)) rfl)
    (ha σ s F H f t1 s1 _ rel e1 fun v F1 H1 g1 h1 p1 => hb σ s1 F1 H1 h1 t2 s2 _ p1.rel e2 fun w F2 H2 g2 h2 p2 => hd σ s2 F2 H2 h2 t3 s3 _ p2.rel e3 fun u F3 H3 g3 h3 p3 => ⟨v, w, u, rfl, ?_⟩)
  obtain ⟨o2, n2, st2⟩ := p2.on p3
  have k1 := st2.keeps (g := g1) (nd_apart' p1.nd) p1.has
  have ap1 := st2.apart (g := g1) (nd_apart' p1.nd) fun b m => let ⟨_, o, e, _⟩ := p1.has b m; ⟨o, e⟩
  have o1 := p1.own.keep k1
  have st1 : Step F H f F3 H3 (g1 ++ (g2 ++ (g3 ++ h3))) := p1.step.trans (st2.frame g1)
  have d23 := nd_apart' n2
  have d3 := nd_apart' p3.nd
  have n3 := List.nodup_append.mp p3.nd
  obtain ⟨h4, z1, z2, z3⟩ := Sls.store (i := i) p3.sl o1 (nd_app (List.nodup_append.mp p1.nd).1 n3.2.1 fun b m z => ap1 b m (List.mem_append_right _ (List.mem_append_right _ z)))
  obtain ⟨h5, y1, y2, y3⟩ := Sls.store (i := j) z1 o2 (nd_app (List.nodup_append.mp n2).1 z3 fun b m z => by
    rcases List.mem_append.mp (z2 b z) with z | z
    · exact ap1 b z (List.mem_append_left _ m)
    · exact d23 b m (List.mem_append_right _ z))
  have sub : ∀ b ∈ h5, b ∈ g1 ∨ b ∈ g2 ∨ b ∈ h3 := fun b m => by
    rcases List.mem_append.mp (y2 b m) with m | m
    · exact .inr (.inl m)
    · rcases List.mem_append.mp (z2 b m) with m | m
      · exact .inl m
      · exact .inr (.inr m)
  obtain ⟨h6, x1, x2, x3⟩ := Sls.store (i := l) y1 p3.own (nd_app n3.1 y3 fun b m z => by
    rcases sub b z with z | z | z
    · exact ap1 b z (List.mem_append_right _ (List.mem_append_left _ m))
    · exact d23 b z (List.mem_append_left _ m)
    · exact d3 b m z)
  have fi := (G.tg (pos := px) hx).2.1
  have fj := (G.tg (pos := py) hy).2.1
  have fl := (G.tg (pos := pz) hz).2.1
  refine e _ F3 H3 h6 (st1.mono (fun b m => m) fun b m => ?_) ⟨p3.step.fh, x1, x3⟩ ((((Out.set i (some v) σ).outs fun q m => by
      have : q = i := by simpa using m
      rw [this]; exact fi).trans ((Out.set j (some w) _).outs fun q m => by
      have : q = j := by simpa using m
      rw [this]; exact fj)).trans ((Out.set l (some u) _).outs fun q m => by
      have : q = l := by simpa using m
      rw [this]; exact fl))
  rcases List.mem_append.mp (x2 b m) with m | m
  · exact List.mem_append_right _ (List.mem_append_right _ (List.mem_append_left _ m))
  · rcases sub b m with m | m | m
    · exact List.mem_append_left _ m
    · exact List.mem_append_right _ (List.mem_append_left _ m)
    · exact List.mem_append_right _ (List.mem_append_right _ (List.mem_append_right _ m))

/-! ### all statements -/
theorem asg_sw (G : Good P k c X) {tg v : Expr} {l : Nat} (h : asgB c tg v = true) (hn : ∀ y py, tg = .Name y py → swB c.sc y py v = false) : swapsWithSole [tg] v l X.env = pure false ∧ swappedStores [tg] v X.env = pure none := by
  unfold asgB at h
  split at h
  · rename_i hc
    split at h
    · rename_i y py elt gs scope lpos
      exact ⟨sw_false (l := l) G (hn y py rfl), swap_none G rfl⟩
    · exact ⟨rfl, swap_none G rfl⟩
    · cases h
  · rename_i hc
    simp only [decide_eq_true_eq] at h
    exact ⟨noComp_sw (by simpa using hc) _ _ _, swap_none G h⟩
theorem forL_eq {C : Nat → List T → Option (T × List (Option T))} {refs : Nat → List Bool} {W : Nat} (t : Tg) (body : Cmds) : ∀ (ds : List D) (s : S), forL (fun d s => assT C refs t (.dat d) s) (execSs C refs W body) ds s = forL (fun d s => assT C refs t (.dat d) s) (fun s => execSs C refs W body s) ds s := fun _ _ => rfl
theorem par_inv {i j : Nat} {x y : E} {a : PySem.Stmt} (h : okS c (.par i j x y) a = true) : ∃ xn yn px py kt pt a' b' k2 pt2 pos, a = .Assign [.Tuple [.Name xn px, .Name yn py] kt pt] (.Tuple [a', b'] k2 pt2) pos ∧
    tgB c i xn = true ∧ tgB c j yn = true ∧ i ≠ j ∧ locB c xn = true ∧ locB c yn = true ∧ swapD c.sc (.Tuple [.Name xn px, .Name yn py] kt pt) (.Tuple [a', b'] k2 pt2) = some (some [xn, yn]) ∧ okE c x a' = true ∧ okE c y b' = true ∧ plainX a' = true ∧ plainX b' = true := by
  unfold okS at h
  split at h
  all_goals first | (rename_i h0 _; cases h0; done) | (rename_i h0 _ _; cases h0; done) | (cases h; done) | skip
  all_goals first | (rename_i h0; cases h0; done) | skip
  rename_i h0
  cases h0
  simp only [Bool.and_eq_true, decide_eq_true_eq] at h
  obtain ⟨⟨⟨⟨⟨⟨⟨⟨⟨h1, h2⟩, h3⟩, h4⟩, h5⟩, h6⟩, h7⟩, h8⟩, h9⟩, h10⟩ := h
  exact ⟨_, _, _, _, _, _, _, _, _, _, _, rfl, h1, h2, h3, h4, h5, h6, h7, h8, h9, h10⟩
theorem parT_inv {i j : Nat} {x y : E} {a : PySem.Stmt} (h : okS c (.parT i j x y) a = true) : ∃ xn yn px py kt pt a' b' k2 pt2 pos, a = .Assign [.Tuple [.Name xn px, .Name yn py] kt pt] (.Tuple [a', b'] k2 pt2) pos ∧
    tgB c i xn = true ∧ tgB c j yn = true ∧ swapD c.sc (.Tuple [.Name xn px, .Name yn py] kt pt) (.Tuple [a', b'] k2 pt2) = some none ∧ okE c x a' = true ∧ okE c y b' = true ∧ plainX a' = true ∧ plainX b' = true := by
  unfold okS at h
  split at h
  all_goals first | (rename_i h0 _; cases h0; done) | (rename_i h0 _ _; cases h0; done) | (cases h; done) | skip
  all_goals first | (rename_i h0; cases h0; done) | skip
  rename_i h0
  cases h0
  simp only [Bool.and_eq_true, decide_eq_true_eq] at h
  obtain ⟨⟨⟨⟨⟨⟨h1, h2⟩, h3⟩, h4⟩, h5⟩, h6⟩, h7⟩ := h
  exact ⟨_, _, _, _, _, _, _, _, _, _, _, rfl, h1, h2, h3, h4, h5, h6, h7⟩
theorem par3_inv {i j l : Nat} {x y z : E} {a : PySem.Stmt} (h : okS c (.par3 i j l x y z) a = true) : ∃ xn yn zn px py pz kt pt a' b' d' k2 pt2 pos, a = .Assign [.Tuple [.Name xn px, .Name yn py, .Name zn pz] kt pt] (.Tuple [a', b', d'] k2 pt2) pos ∧
    tgB c i xn = true ∧ tgB c j yn = true ∧ tgB c l zn = true ∧ i ≠ j ∧ i ≠ l ∧ j ≠ l ∧ locB c xn = true ∧ locB c yn = true ∧ locB c zn = true ∧ swapD c.sc (.Tuple [.Name xn px, .Name yn py, .Name zn pz] kt pt) (.Tuple [a', b', d'] k2 pt2) = some (some [xn, yn, zn]) ∧ okE c x a' = true ∧ okE c y b' = true ∧ okE c z d' = true ∧ plainX a' = true ∧ plainX b' = true ∧ plainX d' = true := by
  unfold okS at h
  split at h
  all_goals first | (rename_i h0 _; cases h0; done) | (rename_i h0 _ _; cases h0; done) | (cases h; done) | skip
  all_goals first | (rename_i h0; cases h0; done) | skip
  rename_i h0
  cases h0
  simp only [Bool.and_eq_true, decide_eq_true_eq] at h
  obtain ⟨⟨⟨⟨⟨⟨⟨⟨⟨⟨⟨⟨⟨⟨⟨h1, h2⟩, h3⟩, h4⟩, h5⟩, h6⟩, h7⟩, h8⟩, h9⟩, h10⟩, h11⟩, h12⟩, h13⟩, h14⟩, h15⟩, h16⟩ := h
  exact ⟨_, _, _, _, _, _, _, _, _, _, _, _, _, _, rfl, h1, h2, h3, h4, h5, h6, h7, h8, h9, h10, h11, h12, h13, h14, h15, h16⟩
mutual
theorem c_ok : ∀ (st : Cmd) (c : CK) (X : Cx), Good P k c X → X.xe = (fun _ _ => False) → ∀ a : PySem.Stmt, okS c st a = true → SSt X c.fx a (execS (run P k) (refsOf P) P.W st)
  | .asg t e, c, X, G, hx, a, h => by
    cases a <;> first | (cases h; done) | skip
    rename_i tgs v pos
    cases tgs with
    | nil => cases h
    | cons tg tgs =>
      cases tgs with
      | cons _ _ => cases h
      | nil =>
        simp only [okS, Bool.and_eq_true] at h
        obtain ⟨⟨⟨h1, h2⟩, h3⟩, h4⟩ := h
        have i1 := (e_ok e c X G v h3).1
        have i2 := g_ok t c X G tg h1
        have main : (∀ y py, tg = .Name y py → swB c.sc y py v = false) → SSt X c.fx (.Assign [tg] v pos) (execS (run P k) (refsOf P) P.W (.asg t e)) := fun hn => by
          obtain ⟨q1, q2⟩ := asg_sw (l := pos.line) G h4 hn
          intro σ s F H f r D rel em ee
          rw [execS] at em
          exact st_asg i1 i2 (okT_fx t tg h1) h2 q1 q2 σ s F H f r D rel em ee
        by_cases hn : ∀ y py, tg = .Name y py → swB c.sc y py v = false
        · exact main hn
        · have : ∃ y py, tg = .Name y py ∧ swB c.sc y py v = true := by
            apply Classical.byContradiction
            intro z
            exact hn fun y py e => by
              cases q : swB c.sc y py v with
              | false => rfl
              | true => exact absurd ⟨y, py, e, q⟩ z
          obtain ⟨y, py, rfl, hsw⟩ := this
          cases t <;> first | (cases h1; done) | skip
          rename_i i
          cases v <;> first | (cases hsw; done) | skip
          rename_i elt' gens scope lpos
          cases e <;> first | (cases h3; done) | skip
          case bad =>
            intro σ s F H f r D rel em ee
            rw [execS, evalE] at em
            cases em
          rename_i elt own tg it ifs
          cases gens with
          | nil => cases h3
          | cons gen gens =>
            obtain ⟨tg', iter', ifs', asy⟩ := gen
            cases gens with
            | cons _ _ => cases asy with
              | ofNat n => cases n <;> cases h3
              | negSucc n => cases h3
            | nil =>
              cases asy with
              | negSucc n => cases h3
              | ofNat n =>
                cases n with
                | succ _ => cases h3
                | zero =>
                  have h3 : (ownOk c scope own && plainX elt' && okE (c.inner scope) elt elt' && okT (c.inner scope) tg tg' && (tgIx tg).all (own.contains ·) && okSrc c tg' it iter' && okIfs (c.inner scope) ifs ifs' && plainX iter') = true := h3
                  simp only [Bool.and_eq_true] at h3
                  obtain ⟨⟨⟨⟨⟨⟨⟨k1, k2⟩, k3⟩, k4⟩, k5⟩, k6⟩, k7⟩, k8⟩ := h3
                  have j1 := src_ok it c X G tg' iter' k6
                  have j2 := fun X' G' => g_ok (P := P) (k := k) tg (c.inner scope) X' G' tg' k4
                  have j3 := fun X' G' => ifs_ok (P := P) (k := k) ifs (c.inner scope) X' G' ifs' k7
                  have j4 := fun X' G' => (e_ok (P := P) (k := k) elt (c.inner scope) X' G' elt' k3).1
                  intro σ s F H f r D rel em ee
                  rw [execS, evalE] at em
                  simp only [assT] at em
                  exact st_setLc G h1 hsw k1 k8 (fun j m => by simpa using List.all_eq_true.mp k5 j m) j1 j2 j3 j4 σ s F H f r D rel em ee
  | .par i j x y, c, X, G, hx, a, h => by
    obtain ⟨xn, yn, px, py, kt, pt, a', b', k2, pt2, pos, rfl, h1, h2, h3, h4, h5, h6, h7, h8, h9, h10⟩ := par_inv h
    have i1 := (e_ok x c X G a' h7).1
    have i2 := (e_ok y c X G b' h8).1
    intro σ s F H f r D rel em ee
    rw [execS] at em
    exact st_par G h1 h2 h3 h4 h5 h6 h9 h10 i1 i2 σ s F H f r D rel em ee
  | .parT i j x y, c, X, G, hx, a, h => by
    obtain ⟨xn, yn, px, py, kt, pt, a', b', k2, pt2, pos, rfl, h1, h2, h3, h4, h5, h6, h7⟩ := parT_inv h
    have i1 := (e_ok x c X G a' h4).1
    have i2 := (e_ok y c X G b' h5).1
    intro σ s F H f r D rel em ee
    rw [execS] at em
    exact st_parT G h1 h2 h3 h6 h7 i1 i2 σ s F H f r D rel em ee
  | .par3 i j l x y z, c, X, G, hx, a, h => by
    obtain ⟨xn, yn, zn, px, py, pz, kt, pt, a', b', d', k2, pt2, pos, rfl, h1, h2, h3, h4, h5, h6, h7, h8, h9, h10, h11, h12, h13, h14, h15, h16⟩ := par3_inv h
    have i1 := (e_ok x c X G a' h11).1
    have i2 := (e_ok y c X G b' h12).1
    have i3 := (e_ok z c X G d' h13).1
    intro σ s F H f r D rel em ee
    rw [execS] at em
    exact st_par3 G h1 h2 h3 h4 h5 h6 h7 h8 h9 h10 h14 h15 h16 i1 i2 i3 σ s F H f r D rel em ee
  | .expr e, c, X, G, hx, a, h => by
    cases a <;> first | (cases h; done) | skip
    simp only [okS, Bool.and_eq_true, Bool.not_eq_true'] at h
    have i1 := (e_ok e c X G _ h.1).1
    intro σ s F H f r D rel em ee
    rw [execS] at em
    exact st_expr h.2 i1 σ s F H f r D rel em ee
  | .ife t b d, c, X, G, hx, a, h => by
    cases a <;> first | (cases h; done) | skip
    simp only [okS, Bool.and_eq_true] at h
    have i1 := ((e_ok t c X G _ h.1.1.1).2 h.1.1.2).1
    have i2 := cs_ok b c X G hx _ h.1.2
    have i3 := cs_ok d c X G hx _ h.2
    intro σ s F H f r D rel em ee
    rw [execS] at em
    exact st_ifS i1 i2 i3 σ s F H f r D rel em ee
  | .forS t it body, c, X, G, hx, a, h => by
    cases a <;> first | (cases h; done) | skip
    rename_i tg iter body' orelse pos
    cases orelse with
    | cons _ _ => cases h
    | nil =>
      simp only [okS, Bool.and_eq_true] at h
      have i1 := src_ok it c X G tg iter h.1.1.2
      have i2 := g_ok t c X G tg h.1.1.1
      have i3 := cs_ok body c X G hx _ h.2
      intro σ s F H f r D rel em ee
      rw [execS] at em
      exact st_for G.calm hx i1 i2 i3 (okT_fx t tg h.1.1.1) h.1.2 σ s F H f r D rel em ee
  | .whil t body, c, X, G, hx, a, h => by
    cases a <;> first | (cases h; done) | skip
    rename_i tt body' orelse pos
    cases orelse with
    | cons _ _ => cases h
    | nil =>
      simp only [okS, Bool.and_eq_true] at h
      have i1 := ((e_ok t c X G _ h.1.1).2 h.1.2).1
      have i3 := cs_ok body c X G hx _ h.2
      intro σ s F H f r D rel em ee
      rw [execS] at em
      exact st_while hx i1 i3 σ s F H f r D rel em ee
  | .ret e, c, X, G, hx, a, h => by
    cases a <;> first | (cases h; done) | skip
    rename_i v pos
    cases v with
    | none => cases h
    | some v =>
      have i1 := (e_ok e c X G v h).1
      intro σ s F H f r D rel em ee
      rw [execS] at em
      exact st_ret i1 σ s F H f r D rel em ee
  | .retN, c, X, G, hx, a, h => by
    cases a <;> first | (cases h; done) | skip
    rename_i v pos
    cases v with
    | some _ => cases h
    | none => exact st_retN
  | .brk, c, X, G, hx, a, h => by
    cases a <;> first | (cases h; done) | skip
    exact st_brk
  | .cont, c, X, G, hx, a, h => by
    cases a <;> first | (cases h; done) | skip
    exact st_cont
  | .pas, c, X, G, hx, a, h => by
    cases a <;> first | (cases h; done) | skip
    exact st_pass
  | .bad, c, X, G, hx, a, h => by
    intro σ s F H f r D rel em ee
    rw [execS] at em
    cases em
theorem cs_ok : ∀ (ss : Cmds) (c : CK) (X : Cx), Good P k c X → X.xe = (fun _ _ => False) → ∀ as : List PySem.Stmt, okSs c ss as = true → SSts X c.fx as (execSs (run P k) (refsOf P) P.W ss)
  | .nil, c, X, G, hx, [], h => by
    intro σ s F H f r D rel em ee
    rw [execSs] at em
    exact sts_nilS σ s F H f r D rel em ee
  | .nil, c, X, G, hx, _ :: _, h => by cases h
  | .cons st ss, c, X, G, hx, [], h => by cases h
  | .cons st ss, c, X, G, hx, a :: as, h => by
    simp only [okSs, Bool.and_eq_true] at h
    have i1 := c_ok st c X G hx a h.1
    have i2 := cs_ok ss c X G hx as h.2
    intro σ s F H f r D rel em ee
    refine sts_consS i1 i2 σ s F H f r D rel ?_ ee
    rw [execSs] at em
    exact em
end
end
end Eng

/-! ### Eng25 -/
/-! Eng25: defs. -/
namespace Eng
open PySem PySem.Spec PyProof.Rows L2
def fxOf (refs : List Bool) : List Nat := (List.range refs.length).filter fun i => refs.getD i false
/-- what is known of a module -/
structure MK where
  fns : List Str
  kws : List (Nat × Nat × List Str × List Nat)
  fr : List Str
  ms : List Str
def ckOf (m : MK) (d : Fn) (sc : Scope) : CK := { N := d.ns, sc := sc, fn := fun _ => true, fx := fxOf d.refs, fns := m.fns, kws := m.kws, fr := m.fr, ms := m.ms }
section
variable {K : PySem.W.Frag} {F F' H H' : Hp}
theorem finals_ok : ∀ {refs : List Bool} {vs : List V} {σ : L2.St} {s : S} {h : List Addr}, Sls0 K F H σ s h → refs.length = vs.length → vs.length ≤ σ.length → (∀ i : Nat, refs[i]? = some true → (σ : List (Option V))[i]? = ((vs.map some : List (Option V)))[i]?) → ∃ h' g, Sls0 K F H (vs.map some) (finals refs s) h' ∧ h.Perm (h' ++ g)
  | [], [], σ, s, h, sl, _, _, _ => ⟨[], h, .nil, List.Perm.refl _⟩
  | [], _ :: _, σ, s, h, sl, e, _, _ => by simp at e
  | _ :: _, [], σ, s, h, sl, e, _, _ => by simp at e
  | b :: refs, v :: vs, [], s, h, sl, _, e, _ => by simp at e
  | true :: refs, v :: vs, x :: σ, _, h, .none (s := s) sl, e1, e2, e3 => by
    obtain ⟨h', g, z1, z2⟩ := finals_ok sl (by simpa using e1) (by simpa using e2) fun i hi => by simpa using e3 (i + 1) (by simpa using hi)
    exact ⟨h', g, .none z1, z2⟩
  | false :: refs, v :: vs, x :: σ, _, h, .none (s := s) sl, e1, e2, e3 => by
    obtain ⟨h', g, z1, z2⟩ := finals_ok sl (by simpa using e1) (by simpa using e2) fun i hi => by simpa using e3 (i + 1) (by simpa using hi)
    exact ⟨h', g, .none z1, z2⟩
  | true :: refs, v :: vs, _ :: σ, _, _, .some (v := w) (t := t) (s := s) (f := f) (g := g0) o sl, e1, e2, e3 => by
    obtain ⟨h', g, z1, z2⟩ := finals_ok sl (by simpa using e1) (by simpa using e2) fun i hi => by simpa using e3 (i + 1) (by simpa using hi)
    have : w = v := by simpa using e3 0 rfl
    subst this
    refine ⟨f ++ h', g, .some o z1, ?_⟩
    rw [List.append_assoc]
    exact List.Perm.append_left f z2
  | false :: refs, v :: vs, _ :: σ, _, _, .some (v := w) (t := t) (s := s) (f := f) (g := g0) o sl, e1, e2, e3 => by
    obtain ⟨h', g, z1, z2⟩ := finals_ok sl (by simpa using e1) (by simpa using e2) fun i hi => by simpa using e3 (i + 1) (by simpa using hi)
    refine ⟨h', f ++ g, .none z1, ?_⟩
    refine (List.Perm.append_left f z2).trans ?_
    rw [← List.append_assoc, ← List.append_assoc]
    exact List.Perm.append_right g List.perm_append_comm
theorem nones_ok : ∀ n : Nat, Sls0 K F H (List.replicate n none) (List.replicate n none) []
  | 0 => .nil
  | n + 1 => .none (nones_ok n)
theorem entry_ok : ∀ {vs : List V} {ts : List T} {f : List Addr} (n : Nat), Owns K F H vs ts f → Sls0 K F H (vs.map some ++ List.replicate n none) (ts.map some ++ List.replicate n none) f
  | _, _, _, n, .nil => nones_ok n
  | _, _, _, n, .cons o q => .some o (entry_ok n q)
theorem fx_mem {refs : List Bool} {i : Nat} (h : refs[i]? = some true) : i ∈ fxOf refs := by
  obtain ⟨h1, h2⟩ := List.getElem?_eq_some_iff.mp h
  unfold fxOf
  rw [List.mem_filter]
  refine ⟨List.mem_range.mpr h1, ?_⟩
  rw [List.getD_eq_getElem?_getD, h]
  rfl
end
section
variable {P0 : Program} {w : World} {K : PySem.W.Frag} {mg : Str → Option Value} {base : Heap} {P : Prg} {m : MK}
/-- a def's place in the text -/
structure FnAt (K : PySem.W.Frag) (mg : Str → Option Value) (m : MK) (j : Nat) (d : Fn) : Prop where
  ex : ∃ (f : Addr) (fd : FuncData) (qual : Str) (pr : Arguments) (body : List PySem.Stmt) (sc : Scope), mg d.name = some (.ref f) ∧ FunD K d.name qual pr body sc [] [] f fd ∧ FnScope d.ns d.ps sc ∧ Binds K fd d.ps [] ∧
    (∀ np ks perm, (j, np, ks, perm) ∈ m.kws → KBinds K fd d.ps ks (gK np ks.length perm) (gK np ks.length perm)) ∧ okSs (ckOf m d sc) d.body body = true
  len : d.refs.length = d.ps.length
  le : d.ps.length ≤ d.ns.length
/-- what is known of the names that stand outside -/
structure Mods (K : PySem.W.Frag) (mg : Str → Option Value) (P : Prg) (m : MK) : Prop where
  free : ∀ x ∈ m.fr, mg x = none
  ms : ∀ f, isMath f = true → biName f ∈ m.ms → mg (biName f) = some (biCallee f)
  names : m.fns = P.fns.map (·.name)
  at_ : ∀ (j : Nat) (d : Fn), P.fns[j]? = some d → FnAt K mg m j d
def FnsOk (P0 : Program) (w : World) (K : PySem.W.Frag) (mg : Str → Option Value) (base : Heap) (P : Prg) (m : MK) (k : Nat) : Prop := ∀ (j : Nat) (d : Fn), P.fns[j]? = some d → ∀ (f : Addr) (fd : FuncData) (qual : Str) (pr : Arguments) (body : List PySem.Stmt) (sc : Scope), FunD K d.name qual pr body sc [] [] f fd → FnScope d.ns d.ps sc →
  okSs (ckOf m d sc) d.body body = true → FnOk P0 w K mg base CX0 k f fd d.ps (spF K P k j)
theorem run_zero {j : Nat} {ts : List T} : run P 0 j ts = none := rfl
theorem fns_zero : FnsOk P0 w K mg base P m 0 := fun j d hd f fd qual pr body sc Fu Sc ok => by
  have no : ∀ vs H Q E, ¬ spF K P 0 j vs H Q E := fun vs H Q E h => by
    obtain ⟨F, ts, fs, t, us, _, _, _, e, _⟩ := h
    cases e
  exact ⟨fun vs H Q E h => absurd h (no _ _ _ _), fun A outer s H args us vs Q E hr he hb hv h => absurd h (no _ _ _ _)⟩
theorem callOk {k : Nat} (M : Mods K mg P m) (ih : FnsOk P0 w K mg base P m k) {X : Cx} (h1 : X.prog = P0) (h2 : X.w = w) (h3 : X.K = K) (h4 : X.mg = mg) (h5 : X.base = base) : ∀ (j : Nat) (d : Fn), P.fns[j]? = some d → CallOk P k j d m.kws X := fun j d hd => by
  obtain ⟨f, fd, qual, pr, body, sc, e1, e2, e3, e4, e5, e6⟩ := (M.at_ j d hd).ex
  subst h1 h2 h3 h4 h5
  exact ⟨f, fd, e1, e2.kp, ih j d hd f fd qual pr body sc e2 e3 e6, e4, e5⟩
theorem run_succ {k j : Nat} {ts : List T} {d : Fn} {t : T} {us : List (Option T)} (hd : P.fns[j]? = some d) (e : run P (k + 1) j ts = some (t, us)) : ts.length = d.ps.length ∧
    ∃ r, execSs (run P k) (refsOf P) P.W d.body (entry d.ns.length ts) = some r ∧ ((∃ s, r = .rt t s ∧ us = finals d.refs s) ∨ ∃ s, r = .nx s ∧ t = .dat .none ∧ us = finals d.refs s) := by
  unfold run at e
  rw [hd, Option.bind_some] at e
  split at e
  · rename_i hl
    refine ⟨hl, ?_⟩
    split at e
    · rename_i t1 s1 e1
      cases e
      exact ⟨_, e1, .inl ⟨_, rfl, rfl⟩⟩
    · rename_i s1 e1
      cases e
      exact ⟨_, e1, .inr ⟨_, rfl, rfl, rfl⟩⟩
    · cases e
  · cases e
theorem fns_succ {k : Nat} (M : Mods K mg P m) (ih : FnsOk P0 w K mg base P m k) : FnsOk P0 w K mg base P m (k + 1) := fun j d hd f fd qual pr body sc Fu Sc ok => by
  have hlen : ∀ vs H Q E, spF K P (k + 1) j vs H Q E → vs.length = d.ps.length := fun vs H Q E h => by
    obtain ⟨F, ts, fs, t, us, _, ow, _, e, _⟩ := h
    rw [ow.len]
    exact (run_succ hd e).1
  refine Fu.ok Sc hlen fun cdv A outer s H vs Q E hr h => ?_
  have hl := hlen vs H Q E h
  obtain ⟨F, ts, fs, t, us, sm, ow, nd, e, cont⟩ := h
  obtain ⟨hts, r, er, hout⟩ := run_succ hd e
  let X : Cx := (cxOf CX0 P0 w K mg base d.ns qual sc f cdv A outer s H E).nox
  have G : Good P k (ckOf m d sc) X := {
    N := rfl
    sc := rfl
    fn := rfl
    kind := Sc.kind
    calm := rfl
    nd := Sc.nd
    room := hr
    free := M.free
    ms := M.ms
    names := fun j x hx => by
      have hx : m.fns[j]? = some x := hx
      rw [M.names, List.getElem?_map] at hx
      obtain ⟨d', h1, h2⟩ := Option.map_eq_some_iff.mp hx
      exact ⟨d', h1, h2⟩
    fns := callOk M ih rfl rfl rfl rfl rfl }
  refine ⟨ssW X body, PSs.nox pss_w, ?_⟩
  have rel : Rel X.K F H (L2.start d.ns vs) (entry d.ns.length ts) fs := by
    refine ⟨sm, ⟨fs, ?_, List.Perm.refl _⟩, nd⟩
    unfold L2.start entry
    rw [ow.len]
    exact entry_ok _ ow
  have fin : ∀ {σ' : L2.St} {s' : S} {F' H' : Hp} {h : List Addr}, Sls K F' H' σ' s' h → Outs (fxOf d.refs) (L2.start d.ns vs) σ' → ∃ h' g, Sls K F' H' (vs.map some) (finals d.refs s') h' ∧ h.Perm (h' ++ g) := fun {σ' s' F' H' h} sl o => by
    obtain ⟨x, s1, s2⟩ := sl.ex
    obtain ⟨h', g, z1, z2⟩ := finals_ok (refs := d.refs) (vs := vs) s1 (by rw [(M.at_ j d hd).len, hl]) (by
      rw [o.1]
      unfold L2.start
      rw [List.length_append, List.length_map]
      omega) fun i hi => by
        rw [o.2 i (fx_mem hi)]
        unfold L2.start
        have : i < (vs.map some).length := by
          rw [List.length_map, hl, ← (M.at_ j d hd).len]
          exact (List.getElem?_eq_some_iff.mp hi).1
        rw [List.getElem?_append_left this]
    exact ⟨h', g, ⟨h', z1, List.Perm.refl _⟩, s2.symm.trans z2⟩
  refine cs_ok d.body _ X G rfl body ok (L2.start d.ns vs) (entry d.ns.length ts) F H fs r _ rel er ?_
  rcases hout with ⟨s', rfl, rfl⟩ | ⟨s', rfl, rfl, rfl⟩
  · intro v σ' F' H' g h st1 o1 sl nd1 o2
    obtain ⟨h', g', z1, z2⟩ := fin sl o2
    have ndh := z2.nodup_iff.mp (List.nodup_append.mp nd1).2.1
    refine cont v F' H' g h' (st1.mono (fun b m => m) fun b m => ?_) o1 z1 (nd_app (List.nodup_append.mp nd1).1 (List.nodup_append.mp ndh).1 fun b m z => nd_apart' nd1 b m (z2.mem_iff.mpr (List.mem_append_left _ z)))
    rcases List.mem_append.mp m with m | m
    · exact List.mem_append_left _ m
    · exact List.mem_append_right _ (z2.mem_iff.mpr (List.mem_append_left _ m))
  · intro σ' F' H' h st1 r1 o2
    obtain ⟨h', g', z1, z2⟩ := fin r1.sl o2
    have ndh := z2.nodup_iff.mp r1.nd
    exact cont .non F' H' [] h' (st1.mono (fun b m => m) fun b m => z2.mem_iff.mpr (List.mem_append_left _ (by simpa using m))) (.dat .non) z1 (by simpa using (List.nodup_append.mp ndh).1)
theorem fns_ok (M : Mods K mg P m) : ∀ k, FnsOk P0 w K mg base P m k
  | 0 => fns_zero
  | k + 1 => fns_succ M (fns_ok M k)
/-- the law's end -/
theorem law_sp {k J n : Nat} {E : XK} (hrun : ∀ ns : List Int, ns.length ≤ n → ∃ us, run P k J [.scr ns] = some (.dat (.bool true), us)) {H : Hp} {a : Addr} {ns : List Int} (hl : ns.length ≤ n) (hS : SqL K H a (ns.map V.int)) :
    spF K P k J [.ref a] H (fun v _ => v = .bl true) E := by
  obtain ⟨us, e⟩ := hrun ns hl
  refine ⟨H, [.scr ns], [], _, us, Same.refl _, .cons (f := []) (g := []) (.scr hS) .nil, List.nodup_nil, e, fun v F' H' f g _ ov _ _ => ?_⟩
  obtain ⟨_, rp⟩ := ov.dat_inv
  cases rp
  rfl
end
end Eng

/-! ### Eng26 -/
/-! Eng26: from what stands behind the top to what the engine wants. -/
namespace Eng
open PySem PySem.Spec PyProof.Rows L2
/-- names of the module that are built-in functions of others -/
def msB (ms : List (Str × Value)) (K : PySem.W.Frag) : Bool := ms.all fun p => He.eqO (PySem.W.nsIn K mainGlobals p.1) (some (some p.2))
def hookM (n : Nat) (fa : List He.Fa) (fn : List He.DefD) (ms : List (Str × Value)) : PySem.W.Hook where
  α := He.AlD × Bool
  obs := fun s => (He.obsDG n fa fn s.heap.get?, msB ms (He.frG s.heap.get? (He.asD s.heap.get? n)))
  val := fun _ => (He.valD fn, true)
  says := fun _ h => ∃ K : PySem.W.Frag, K.In h ∧ He.SaysD fa fn K ∧ msB ms K = true
  of := fun _ _ e => ⟨_, He.frG_in, congrArg (fun z : He.AlD × Bool => z.1) e, congrArg (fun z : He.AlD × Bool => z.2) e⟩
  keeps := fun _ _ _ ⟨K, hK, c⟩ k => ⟨K, PySem.W.Frag.In.keeps hK k, c⟩
def obsM (n : Nat) (fa : List He.Fa) (fn : List He.DefD) (ms : List (Str × Value)) (g : Addr → Option Obj) : He.AlD × Bool := (He.obsDG n fa fn g, msB ms (He.frG g (He.asD g n)))
theorem obsM_eq {n : Nat} {fa : List He.Fa} {fn : List He.DefD} {ms : List (Str × Value)} {g : Addr → Option Obj} {s : Shared} (h : ∀ a, g a = s.heap.get? a) : obsM n fa fn ms g = (hookM n fa fn ms).obs s := by
  have e : g = s.heap.get? := funext h
  rw [e] <;> rfl
theorem gK_inv {α : Type} [Inhabited α] {n m : Nat} {perm : List Nat} {us ws : List α} (h : (gK 0 n perm us ws).length = m + 1) : us = [] ∧ ws.length = n := by
  unfold gK at h
  split at h
  · rename_i e
    exact ⟨List.eq_nil_of_length_eq_zero e.1, e.2⟩
  · simp at h
theorem vals_getD {vs : List V} {us : List Value} (r : Vals vs us) (j : Nat) : RelV (vs.getD j default) (us.getD j default) := by
  induction r generalizing j with
  | nil => exact rfl
  | cons a t ih =>
    cases j with
    | zero => exact a
    | succ j => exact ih j
theorem gK_rel {n : Nat} {perm : List Nat} {vs zs : List V} {us ws : List Value} (r : Vals vs us) (q : Vals zs ws) : Vals (gK 0 n perm vs zs) (gK 0 n perm us ws) := by
  unfold gK
  rw [r.length, q.length]
  split
  · have rr := r.append q
    induction perm with
    | nil => exact .nil
    | cons j perm ih => exact .cons (vals_getD rr j) ih
  · exact .nil
section
variable {K : PySem.W.Frag} {x qual : Str} {params : Arguments} {body : List PySem.Stmt} {scope : Scope} {f : Addr} {fd : FuncData} {ps ks : List Str} {perm : List Nat} {m : Nat}
theorem kbinds (F : FunD K x qual params body scope [] [] f fd) (hm : ps.length = m + 1)
    (h : ∀ (kV doc pm : Value) (an : Option Addr) (cdv ct : Value) (ws : List Value), ws.length = ks.length → bindArgs (PySem.W.fnOf x qual params body scope .none kV doc pm an cdv ct) ⟨[], ks.zip ws⟩ = pure (ps.zip (perm.map fun j => ws.getD j default))) :
    KBinds K fd ps ks (gK 0 ks.length perm) (gK 0 ks.length perm) := by
  obtain ⟨oc, od, dV, kV, doc, pm, an, cdv, ct, osl, rfl, lk, hcd, hD, hK⟩ := F.ex
  rcases hD with ⟨_, rfl⟩ | ⟨e, _⟩
  · refine ⟨fun s us ws _ hl => ?_, fun r q => gK_rel r q⟩
    obtain ⟨rfl, hw⟩ := gK_inv (hl.trans hm)
    have e : gK 0 ks.length perm [] ws = perm.map fun j => ws.getD j default := by
      unfold gK
      rw [if_pos ⟨rfl, hw⟩]
      rfl
    rw [e]
    exact .of_eq (h kV doc pm an cdv ct ws hw)
  · exact absurd rfl e
/-- a def, its datum, its small syntax -/
structure FnD (m : MK) (j : Nat) (d : Fn) (δ : He.DefD) : Prop where
  nm : δ.name = d.name
  at_ : δ.at_ = (d.name, none)
  dfl : δ.dfl = []
  kwd : δ.kwd = []
  sc : FnScope d.ns d.ps δ.scope
  bind : ∀ (kV doc pm : Value) (an : Option Addr) (cdv ct : Value) (us : List Value), us.length = d.ps.length → bindArgs (PySem.W.fnOf δ.name δ.qual δ.params δ.body δ.scope .none kV doc pm an cdv ct) ⟨us, []⟩ = pure (d.ps.zip us)
  kb : ∀ ks perm, (j, 0, ks, perm) ∈ m.kws → (∃ n, d.ps.length = n + 1) ∧ ∀ (kV doc pm : Value) (an : Option Addr) (cdv ct : Value) (ws : List Value), ws.length = ks.length → bindArgs (PySem.W.fnOf δ.name δ.qual δ.params δ.body δ.scope .none kV doc pm an cdv ct) ⟨[], ks.zip ws⟩ = pure (d.ps.zip (perm.map fun j => ws.getD j default))
  ok : okSs (ckOf m d δ.scope) d.body δ.body = true
  len : d.refs.length = d.ps.length
  le : d.ps.length ≤ d.ns.length
structure TabOk (P : Prg) (m : MK) (fa : List He.Fa) (fn : List He.DefD) (ms : List (Str × Value)) : Prop where
  names : m.fns = P.fns.map (·.name)
  np : ∀ j np ks perm, (j, np, ks, perm) ∈ m.kws → np = 0
  glo : ∀ (j : Nat) (d : Fn), P.fns[j]? = some d → He.Fa.glo d.name ∈ fa
  free : ∀ x ∈ m.fr, He.Fa.free x ∈ fa
  ms : ∀ f, isMath f = true → biName f ∈ m.ms → (biName f, biCallee f) ∈ ms
  at_ : ∀ (j : Nat) (d : Fn), P.fns[j]? = some d → ∃ δ : He.DefD, fn[j]? = some δ ∧ FnD m j d δ
variable {P : Prg} {m : MK} {fa : List He.Fa} {fn : List He.DefD} {ms : List (Str × Value)} {h : Heap} {mg : Str → Option Value}
theorem fact_mem (c : He.SaysD fa fn K) {f : He.Fa} (hm : f ∈ fa) : f.ok K = true := by
  obtain ⟨i, hi⟩ := List.getElem?_of_mem hm
  exact c.fact i hi
theorem mods_of (T : TabOk P m fa fn ms) (X : K.In h) (G : h.Ns mainGlobals mg) (c : He.SaysD fa fn K) (cm : msB ms K = true) : Mods K mg P m where
  free := fun x hx => He.free_ok X G (fact_mem c (T.free x hx))
  ms := fun f hf hx => by
    have := List.all_eq_true.mp cm _ (T.ms f hf hx)
    exact PySem.W.mg_of X G (He.eqO_ok this)
  names := T.names
  at_ := fun j d hd => by
    obtain ⟨δ, h1, D⟩ := T.at_ j d hd
    obtain ⟨fd, F⟩ := c.def_ j h1
    have e1 : δ.dvs K = [] := by unfold He.DefD.dvs; rw [D.dfl]; rfl
    have e2 : δ.kws K = [] := by unfold He.DefD.kws; rw [D.kwd]; rfl
    rw [e1, e2] at F
    have hg := He.glo_ok X G (fact_mem c (T.glo j d hd))
    have e3 : He.fAd K δ.at_ = He.ga K d.name := by rw [D.at_]; rfl
    have hF := F
    rw [D.nm, e3] at hF
    refine ⟨⟨_, fd, δ.qual, δ.params, δ.body, δ.scope, hg, hF, D.sc, F.bindsN D.bind, fun np ks perm hk => ?_, D.ok⟩, D.len, D.le⟩
    have := T.np _ _ _ _ hk
    subst this
    obtain ⟨⟨n, hn⟩, hb⟩ := D.kb ks perm hk
    exact kbinds F hn hb
/-- what walk_ofE wants -/
theorem law_end (T : TabOk P m fa fn ms) (X : K.In h) (G : h.Ns mainGlobals mg) (c : He.SaysD fa fn K) (cm : msB ms K = true) {P0 : Program} {w : World} {J k : Nat} {d : Fn} {a0 : Addr} (hmg : mg ("law" : Str) = some (.ref a0)) (hd : P.fns[J]? = some d) (hn : d.name = "law") (hp : d.ps = [("script" : Str)])
    (plain : ∀ ns : List Int, ns.length ≤ 63 → ∃ us, run P k J [.scr ns] = some (.dat (.bool true), us)) :
    ∃ (K' : PySem.W.Frag) (fd : FuncData) (sp : Sp), K'.In h ∧ (∀ (s : Shared) (u : Value), BindsTo s fd ⟨[u], []⟩ [("script", u)]) ∧
      (∀ (H : Hp) (a : Addr) (ns : List Int), ns.length ≤ 63 → Only H → SqL K' H a (ns.map V.int) → sp [.ref a] H (fun v _ => v = .bl true) fun _ _ _ => False) ∧
      ∀ base : Heap, K'.In base → base.Ns mainGlobals mg → FnOk P0 w K' mg base CX0 k a0 fd [("script" : Str)] sp := by
  have M := mods_of T X G c cm
  obtain ⟨δ, h1, D⟩ := T.at_ J d hd
  obtain ⟨fd, F⟩ := c.def_ J h1
  have e1 : δ.dvs K = [] := by unfold He.DefD.dvs; rw [D.dfl]; rfl
  have e2 : δ.kws K = [] := by unfold He.DefD.kws; rw [D.kwd]; rfl
  rw [e1, e2] at F
  have hg := He.glo_ok X G (fact_mem c (T.glo J d hd))
  rw [hn, hmg] at hg
  have e3 : He.fAd K δ.at_ = a0 := by
    rw [D.at_]
    cases hg
    show He.ga K d.name = He.ga K "law"
    rw [hn]
  have hF := F
  rw [D.nm, e3] at hF
  refine ⟨K, fd, spF K P k J, X, fun s u => ?_, fun H a ns hl _ hS => law_sp plain hl hS, fun base _ _ => ?_⟩
  · have := F.bindsA D.bind s [u] (by rw [hp]; rfl)
    rw [hp] at this
    exact this
  · have := fns_ok (P0 := P0) (w := w) (base := base) M k J d hd a0 fd δ.qual δ.params δ.body δ.scope hF D.sc D.ok
    rw [hp] at this
    exact this
end
end Eng

/-! ### Wp0 -/
/-! Wp0: walking the interpreter by equations, one step at a time. -/
namespace Eng
open PySem L2

/-! ### encoders -/
def DE {α : Type} (f : α → D) (xs : List α) : D := .list (xs.map f)
def TE {α : Type} (f : α → D) (xs : List α) : D := .tuple (xs.map f)
def LE {α : Type} (f : α → D) (xs : List α) : T := .lst (xs.map fun x => .dat (f x))
def LL {α : Type} (f : α → T) (xs : List α) : T := .lst (xs.map f)
def dN (n : Nat) : D := .int (n : Int)
def oE {α : Type} (f : α → D) : Option α → D
  | none => .none
  | some a => f a
def p2 {α β : Type} (f : α → D) (g : β → D) (p : α × β) : D := .tuple [f p.1, g p.2]
abbrev RT := Option (T × S)

/-! ### some r with Q -/
def Go {α : Type} (m : Option α) (Q : α → Prop) : Prop := ∃ a, m = some a ∧ Q a
theorem go_some {α : Type} {a : α} {Q : α → Prop} : Go (some a) Q ↔ Q a := ⟨fun ⟨_, e, h⟩ => by cases e; exact h, fun h => ⟨a, rfl, h⟩⟩
theorem Go.mono {α : Type} {m : Option α} {Q R : α → Prop} (h : Go m Q) (k : ∀ a, Q a → R a) : Go m R := by obtain ⟨a, e, h⟩ := h; exact ⟨a, e, k a h⟩
theorem go_eq {α : Type} {m : Option α} {a : α} (h : Go m (· = a)) : m = some a := by obtain ⟨b, e, h⟩ := h; cases h; exact e
theorem go_of {α : Type} {m : Option α} {a : α} {Q : α → Prop} (e : m = some a) (h : Q a) : Go m Q := ⟨a, e, h⟩

section
variable (C : Nat → List T → Option (T × List (Option T))) (refs : Nat → List Bool)
def Kd : RT → Option (D × S) := dOf
def Kb : RT → Option (Bool × S) := boolOf
def K3 (m : Option T) (s : S) : RT := m.map fun t => (t, s)
def KD (m : Option D) (s : S) : RT := m.map fun d => (.dat d, s)
def KB (m : Option Bool) (s : S) : RT := m.map fun b => (.dat (.bool b), s)
def K2 (o : BOp) (x : D) (m : Option (D × S)) : RT := bnd m fun y s => K3 (binD o x y) s
def K1 (o : BOp) (b : E) (m : Option (D × S)) : RT := bnd m fun x s => K2 o x (Kd (evalE C refs b s))
def Ku (o : UOp) (m : Option (D × S)) : RT := bnd m fun x s => KD (unD o x) s
def Ka2 (c : Bool) (m : RT) (s : S) : RT := if c then m else some (.dat (.bool false), s)
def Ka (b : E) (m : Option (Bool × S)) : RT := bnd m fun c s => Ka2 c (evalE C refs b s) s
def Ko2 (c : Bool) (m : RT) (s : S) : RT := if c then some (.dat (.bool true), s) else m
def Ko (b : E) (m : Option (Bool × S)) : RT := bnd m fun c s => Ko2 c (evalE C refs b s) s
def Kc (o : COp) (m : Option (List T × S)) : RT := bnd m fun ts s => KB (cmpTs o ts) s
def Kc5 (o' : COp) (y : D) (m : Option (D × S)) : RT := bnd m fun z s => KB (cmpT o' (.dat y) (.dat z)) s
def Kc3 (o' : COp) (y : D) (c : E) (m : Option Bool) (s : S) : RT := m.bind fun k => Ka2 k (Kc5 o' y (Kd (evalE C refs c s))) s
def Kc2 (o o' : COp) (x : D) (c : E) (m : Option (D × S)) : RT := bnd m fun y s => Kc3 C refs o' y c (cmpT o (.dat x) (.dat y)) s
def Kc1 (o o' : COp) (b c : E) (m : Option (D × S)) : RT := bnd m fun x s => Kc2 C refs o o' x c (Kd (evalE C refs b s))
def KN (m : RT) : RT := bnd m fun x s => some (.dat (.bool (isNone x)), s)
def KnN (m : RT) : RT := bnd m fun x s => some (.dat (.bool (!isNone x)), s)
def Ki2 (k : Bool) (m n : RT) : RT := if k then m else n
def Ki (a b : E) (m : Option (Bool × S)) : RT := bnd m fun k s => Ki2 k (evalE C refs a s) (evalE C refs b s)
def Kbi (f : Bi) (m : Option (List T × S)) : RT := bnd m fun ts s => K3 (biF f ts) s
def Kt2 (m : Option (List D)) (s : S) : RT := m.bind fun ds => if ds.length ≤ lineN then some (.dat (.tuple ds), s) else none
def Kt (m : Option (List T × S)) : RT := bnd m fun ts s => Kt2 (T.datas ts) s
def Kl (m : Option (List T × S)) : RT := bnd m fun ts s => if ts.length ≤ lineN then some (.lst ts, s) else none
def Kf (m : RT) : RT := fOf m
def KI (p : Pl) (s : S) (m : Option (T × Option T)) : RT := m.bind fun (u, t') => match t' with
  | none => some (u, s)
  | some t' => (p.put s t').map fun s => (u, s)
def Kx2 (p : Pl) (m : Option (D × S)) : RT := bnd m fun k s => itemAt p k s
def Kx1 (p : Pl) (ix : E) (m : Option T) (s : S) : RT := m.bind fun _ => Kx2 p (Kd (evalE C refs ix s))
def Kxe2 (t : T) (m : Option (D × S)) : RT := bnd m fun k s => (itemT t k).map fun (u, _) => (u, s)
def Kxe1 (ix : E) (m : RT) : RT := bnd m fun t s => Kxe2 t (Kd (evalE C refs ix s))
def Kxp (p : Pl) (m : Option D) (s : S) : RT := m.bind fun k => itemAt p k s
def Ks4 (m : Option T) (i j : Option Int) (s : S) : RT := m.bind fun t => K3 (sliceT t i j) s
def Ks3 (p : Pl) (i : Option Int) (m : Option (Option Int × S)) : RT := bnd m fun j s => Ks4 (p.look s) i j s
def Ks2 (p : Pl) (hi : Oe) (m : Option (Option Int × S)) : RT := bnd m fun i s => Ks3 p i (evalO C refs hi s)
def Ks1 (p : Pl) (lo hi : Oe) (m : Option T) (s : S) : RT := m.bind fun _ => Ks2 C refs p hi (evalO C refs lo s)
def Kse3 (t : T) (i : Option Int) (m : Option (Option Int × S)) : RT := bnd m fun j s => K3 (sliceT t i j) s
def Kse2 (t : T) (hi : Oe) (m : Option (Option Int × S)) : RT := bnd m fun i s => Kse3 t i (evalO C refs hi s)
def Kse1 (lo hi : Oe) (m : RT) : RT := bnd m fun t s => Kse2 C refs t hi (evalO C refs lo s)
def Ksp (p : Pl) (lo hi : Oe) (s : S) : RT := (pureO lo s).bind fun i => (pureO hi s).bind fun j => Ks4 (p.look s) i j s
def Km3 (p : Pl) (s : S) (m : Option (T × T)) : RT := m.bind fun (t', u) => (p.put s t').map fun s => (u, s)
def Km2 (m : Me) (p : Pl) (r : Option (List T × S)) : RT := bnd r fun ts s => methAt m p ts s
def Km1 (m : Me) (p : Pl) (es : Es) (s : S) (r : Option T) : RT := r.bind fun t => if meK m t then (if p.isVar then Km2 m p (evalEs C refs es s) else (pureDs es s).bind fun ds => methAt m p (ds.map .dat) s) else none
def compR (elt : E) (own : List Nat) (tg : Tg) (ifs : Es) (ds : List D) (s : S) : Option (List T × S) := compL (fun d s => assT C refs tg (.dat d) (wipeS s own)) (evalIfs C refs ifs) (evalE C refs elt) ds s []
def Kcm3 (own : List Nat) (s : S) (m : Option (List T × S)) : RT := bnd m fun ts s1 => some (.lst ts, backS s (wipeS s1 own) own)
def Kcm2 (elt : E) (own : List Nat) (tg : Tg) (ifs : Es) (m : Option (List D × S)) : RT := bnd m fun ds s => if ownFree s own then Kcm3 own s (compR C refs elt own tg ifs ds s) else none
def Kd2 (tk : Bool) (x : D) (m : Option (D × S)) : RT := bnd m fun y s => if tk then (match x with
      | .tuple ds => (toKeys ds).map fun k => (.dT false [(k, y)], s)
      | _ => none) else (toKey x).map fun k => (.dK false [(k, y)], s)
def Kd1 (tk : Bool) (v : E) (m : Option (D × S)) : RT := bnd m fun x s => Kd2 tk x (Kd (evalE C refs v s))
def Kcl (f : Nat) (as : As) (m : Option (List T × S)) : RT := bnd m fun ts s => callWith C refs f as ts s
def Kck (f : Nat) (n : Nat) (perm : List Nat) (m : Option (List T × S)) : RT := bnd m fun ts s => if ts.length = n then callKW C refs f perm ts s else none
def Kop (m : Option (D × S)) : Option (Option Int × S) := bnd m fun d s => (asInt d).map fun k => (some k, s)
def KEs2 (t : T) (m : Option (List T × S)) : Option (List T × S) := bnd m fun ts s => some (t :: ts, s)
def KEs (es : Es) (m : RT) : Option (List T × S) := bnd m fun t s => KEs2 t (evalEs C refs es s)
def KAs (as : As) (m : RT) : Option (List T × S) := bnd m fun t s => KEs2 t (evalAs C refs as s)
def KV1 (m : RT) : Option (List T × S) := bnd m fun t s => some ([t], s)
def KV3 (x : T) (m : RT) : Option (List T × S) := bnd m fun y s => some ([x, y], s)
def KV2 (b : Bs) (m : RT) : Option (List T × S) := bnd m fun x s => KV3 x (evalB C refs b s)
def KVp2 (p : Pl) (m : RT) : Option (List T × S) := bnd m fun y s => (p.look s).map fun x => ([x, y], s)
def KVp1 (p : Pl) (e : E) (m : Option T) (s : S) : Option (List T × S) := m.bind fun _ => KVp2 p (Kf (evalE C refs e s))
def KIf2 (b : Bool) (es : Es) (s : S) : Option (Bool × S) := if b then evalIfs C refs es s else some (false, s)
def KIf1 (es : Es) (m : Option (Bool × S)) : Option (Bool × S) := bnd m fun b s => KIf2 C refs b es s
def KS1 (m : Option (D × S)) : Option (List D × S) := bnd m fun d s => (seqD d).map fun ds => (ds, s)
def Krg1 (m : Option (D × S)) : Option (List D × S) := bnd m fun x s => (asInt x).bind fun i => if smallI i then some (rangeD 0 i.toNat, s) else none
def Krg2b (x : D) (m : Option (D × S)) : Option (List D × S) := bnd m fun y s => (asInt x).bind fun i => (asInt y).bind fun j => if smallI i && smallI j then some (rangeD i (j - i).toNat, s) else none
def Krg2 (b : E) (m : Option (D × S)) : Option (List D × S) := bnd m fun x s => Krg2b x (Kd (evalE C refs b s))
def Krg3c (x y : D) (m : Option (D × S)) : Option (List D × S) := bnd m fun z s => (asInt x).bind fun i => (asInt y).bind fun j => (asInt z).bind fun k =>
      if rangeOk i j k then some (rangeC i k (rangeN i j k), s) else none
def Krg3b (x : D) (c : E) (m : Option (D × S)) : Option (List D × S) := bnd m fun y s => Krg3c x y (Kd (evalE C refs c s))
def Krg3 (b c : E) (m : Option (D × S)) : Option (List D × S) := bnd m fun x s => Krg3b C refs x c (Kd (evalE C refs b s))
def Ken (m : Option (D × S)) : Option (List D × S) := bnd m fun d s => (listD d).map fun ds => (enumD 0 ds, s)
def Kzp2 (x : D) (m : Option (D × S)) : Option (List D × S) := bnd m fun y s => (zipSrc x y).map fun ds => (ds, s)
def Kzp1 (b : E) (m : Option (D × S)) : Option (List D × S) := bnd m fun x s => Kzp2 x (Kd (evalE C refs b s))
def Ksb3 (p : Pl) (s : S) (m : Option T) : Option S := m.bind fun t' => p.put s t'
def Ksb2 (p : Pl) (t : T) (m : Option (D × S)) : Option S := bnd m fun k s => storeAt p k t s
def Ksb1 (p : Pl) (ix : E) (t : T) (m : Option T) (s : S) : Option S := m.bind fun _ => Ksb2 p t (Kd (evalE C refs ix s))
def Ksbp (p : Pl) (t : T) (s : S) (m : Option D) : Option S := m.bind fun k => storeAt p k t s
def Kts (ts : Tgs) (ds : List D) (m : Option S) : Option S := m.bind fun s => assTs C refs ts ds s
variable (W : Nat)
def Knx (m : Option S) : Option R := m.map .nx
def Kasg (t : Tg) (m : RT) : Option R := bnd m fun u s => Knx (assT C refs t u s)
def Kp2 (i j : Nat) (x : T) (m : RT) : Option R := bnd m fun y s => some (.nx ((s.set i (some x)).set j (some y)))
def Kp1 (i j : Nat) (b : E) (m : RT) : Option R := bnd m fun x s => Kp2 i j x (evalE C refs b s)
def Kq3 (i j k : Nat) (x y : T) (m : RT) : Option R := bnd m fun z s => some (.nx (((s.set i (some x)).set j (some y)).set k (some z)))
def Kq2 (i j k : Nat) (x : T) (c : E) (m : RT) : Option R := bnd m fun y s => Kq3 i j k x y (evalE C refs c s)
def Kq1 (i j k : Nat) (b c : E) (m : RT) : Option R := bnd m fun x s => Kq2 C refs i j k x c (evalE C refs b s)
def Kex (m : RT) : Option R := bnd m fun _ s => some (.nx s)
def Kif (a b : Cmds) (m : Option (Bool × S)) : Option R := bnd m fun k s => if k then execSs C refs W a s else execSs C refs W b s
def forR (t : Tg) (body : Cmds) (ds : List D) (s : S) : Option R := forL (fun d s => assT C refs t (.dat d) s) (execSs C refs W body) ds s
def Kfor (t : Tg) (body : Cmds) (m : Option (List D × S)) : Option R := bnd m fun ds s => forR C refs W t body ds s
def whileR (c : E) (body : Cmds) (s : S) : Option R := whileL (fun s => Kb (evalE C refs c s)) (execSs C refs W body) W s
def Kret (m : RT) : Option R := bnd m fun t s => some (.rt t s)
def Kseq (ss : Cmds) (m : Option R) : Option R := match m with
  | some (.nx s) => execSs C refs W ss s
  | r => r
def Krun (refs : List Bool) (m : Option R) : Option (T × List (Option T)) := match m with
  | some (.rt t s) => some (t, finals refs s)
  | some (.nx s) => some (.dat .none, finals refs s)
  | _ => none
end

section
variable {C : Nat → List T → Option (T × List (Option T))} {refs : Nat → List Bool} {s : S}
def Kvar (i : Nat) (s : S) (o : Option T) : RT := match o with
    | some (.dat d) => some (.dat d, s)
    | some t => (T.frz t).map fun t' => (t', s.set i (some t'))
    | none => none
theorem w_var {i : Nat} : evalE C refs (.var i) s = Kvar i s (getS s i) := by rw [evalE]; rfl
theorem w_var_dat {i : Nat} {d : D} : Kvar i s (some (.dat d)) = some (.dat d, s) := rfl
theorem frz_LE {α : Type} {f : α → D} {xs : List α} : T.frz (LE f xs) = some (.dat (DE f xs)) := by
  have h : ∀ xs : List α, T.datas (xs.map fun x => T.dat (f x)) = some (xs.map f) := fun xs => by
    induction xs with
    | nil => simp [T.datas]
    | cons x xs ih => simp [T.datas, T.data, ih]
  simp [LE, T.frz, T.data, h, DE]
theorem data_LE {α : Type} {f : α → D} {xs : List α} : T.data (LE f xs) = some (DE f xs) := by
  have := @frz_LE α f xs
  unfold T.frz LE at this
  simpa [LE] using this
theorem datas_map {α : Type} {f : α → T} {g : α → D} (h : ∀ a, T.data (f a) = some (g a)) : ∀ xs : List α, T.datas (xs.map f) = some (xs.map g)
  | [] => by simp [T.datas]
  | x :: xs => by simp [T.datas, h, datas_map h xs]
theorem frz_LL {α : Type} {f : α → D} {xs : List (List α)} : T.frz (LL (LE f) xs) = some (.dat (DE (DE f) xs)) := by
  simp [LL, T.frz, T.data, datas_map (fun a => @data_LE α f a), DE]
theorem data_LL {α : Type} {f : α → D} {xs : List (List α)} : T.data (LL (LE f) xs) = some (DE (DE f) xs) := by
  simp [LL, T.data, datas_map (fun a => @data_LE α f a), DE]
theorem w_var_LE {α : Type} {f : α → D} {xs : List α} {i : Nat} : Kvar i s (some (LE f xs)) = some (.dat (DE f xs), s.set i (some (.dat (DE f xs)))) := by
  have : Kvar i s (some (LE f xs)) = (T.frz (LE f xs)).map fun t' => (t', s.set i (some t')) := rfl
  rw [this, frz_LE]; rfl
theorem w_var_LL {α : Type} {f : α → D} {xs : List (List α)} {i : Nat} : Kvar i s (some (LL (LE f) xs)) = some (.dat (DE (DE f) xs), s.set i (some (.dat (DE (DE f) xs)))) := by
  have : Kvar i s (some (LL (LE f) xs)) = (T.frz (LL (LE f) xs)).map fun t' => (t', s.set i (some t')) := rfl
  rw [this, frz_LL]; rfl
def Kvar2 (i : Nat) (s : S) (o : Option T) : RT := o.map fun t' => (t', s.set i (some t'))
theorem w_var_lst {ts : List T} {i : Nat} : Kvar i s (some (.lst ts)) = Kvar2 i s (T.frz (.lst ts)) := rfl
theorem w_var_scr {ns : List Int} {i : Nat} : Kvar i s (some (.scr ns)) = some (.scr ns, s.set i (some (.scr ns))) := rfl
theorem w_var_dT {b : Bool} {kvs : List (List Key × D)} {i : Nat} : Kvar i s (some (.dT b kvs)) = some (.dT true kvs, s.set i (some (.dT true kvs))) := rfl
theorem w_var_dK {b : Bool} {kvs : List (Key × D)} {i : Nat} : Kvar i s (some (.dK b kvs)) = some (.dK true kvs, s.set i (some (.dK true kvs))) := rfl
theorem w_var2 {t : T} {i : Nat} : Kvar2 i s (some t) = some (t, s.set i (some t)) := rfl
theorem w_frz_lst {ts : List T} : T.frz (.lst ts) = (T.data (.lst ts)).map .dat := rfl
theorem w_data_lst {ts : List T} : T.data (.lst ts) = (T.datas ts).map .list := by simp [T.data]
theorem w_data_dat {d : D} : T.data (.dat d) = some d := by simp [T.data]
theorem w_datas_nil : T.datas [] = some [] := by simp [T.datas]
theorem w_datas_cons {d : D} {ts : List T} : T.datas (.dat d :: ts) = (T.datas ts).map fun ds => d :: ds := by simp [T.datas, T.data]
theorem w_datas_LE {α : Type} {f : α → D} {xs : List α} {ts : List T} : T.datas (LE f xs :: ts) = (T.datas ts).map fun ds => DE f xs :: ds := by simp [T.datas, data_LE]
theorem w_map {α β : Type} {a : α} {f : α → β} : (some a).map f = some (f a) := rfl
theorem w_bind {α β : Type} {a : α} {f : α → Option β} : (some a).bind f = f a := rfl
theorem w_mv {i : Nat} : evalE C refs (.mv i) s = (getS s i).map fun t => (t, s.set i none) := by rw [evalE]
theorem w_int {k : Int} : evalE C refs (.int k) s = some (.dat (.int k), s) := by rw [evalE]
theorem w_bl {b : Bool} : evalE C refs (.bl b) s = some (.dat (.bool b), s) := by rw [evalE]
theorem w_non : evalE C refs .non s = some (.dat .none, s) := by rw [evalE]
theorem w_str {x : Str} : evalE C refs (.str x) s = some (.dat (.str x), s) := by rw [evalE]
/-! Kd, Kb -/
theorem w_d_dat {d : D} : Kd (some (.dat d, s)) = some (d, s) := by simp [Kd, dOf, T.data]
theorem w_d_LE {α : Type} {f : α → D} {xs : List α} : Kd (some (LE f xs, s)) = some (DE f xs, s) := by simp [Kd, dOf, data_LE]
theorem w_d_LL {α : Type} {f : α → D} {xs : List (List α)} : Kd (some (LL (LE f) xs, s)) = some (DE (DE f) xs, s) := by simp [Kd, dOf, data_LL]
theorem w_d_lst {ts : List T} : Kd (some (.lst ts, s)) = (T.datas ts).map fun ds => (.list ds, s) := by
  simp [Kd, dOf, T.data, Option.map_map, Function.comp_def]
theorem w_b_bool {b : Bool} : Kb (some (.dat (.bool b), s)) = some (b, s) := rfl
/-! operators -/
theorem w_K3 {t : T} : K3 (some t) s = some (t, s) := rfl
theorem w_KD {d : D} : KD (some d) s = some (.dat d, s) := rfl
theorem w_KB {b : Bool} : KB (some b) s = some (.dat (.bool b), s) := rfl
theorem w_bin {o : BOp} {a b : E} : evalE C refs (.bin o a b) s = K1 C refs o b (Kd (evalE C refs a s)) := by rw [evalE]; rfl
theorem w_K1 {o : BOp} {b : E} {x : D} : K1 C refs o b (some (x, s)) = K2 o x (Kd (evalE C refs b s)) := rfl
theorem w_K2 {o : BOp} {x y : D} : K2 o x (some (y, s)) = K3 (binD o x y) s := rfl
theorem w_un {o : UOp} {a : E} : evalE C refs (.un o a) s = Ku o (Kd (evalE C refs a s)) := by rw [evalE]; rfl
theorem w_Ku {o : UOp} {x : D} : Ku o (some (x, s)) = KD (unD o x) s := rfl
theorem w_and {a b : E} : evalE C refs (.and a b) s = Ka C refs b (Kb (evalE C refs a s)) := by rw [evalE]; rfl
theorem w_Ka {b : E} {c : Bool} : Ka C refs b (some (c, s)) = Ka2 c (evalE C refs b s) s := rfl
theorem w_Ka2_t {m : RT} : Ka2 true m s = m := rfl
theorem w_Ka2_f {m : RT} : Ka2 false m s = some (.dat (.bool false), s) := rfl
theorem w_Ka2 {c b : Bool} : Ka2 c (some (.dat (.bool b), s)) s = some (.dat (.bool (c && b)), s) := by cases c <;> rfl
theorem w_or {a b : E} : evalE C refs (.or a b) s = Ko C refs b (Kb (evalE C refs a s)) := by rw [evalE]; rfl
theorem w_Ko {b : E} {c : Bool} : Ko C refs b (some (c, s)) = Ko2 c (evalE C refs b s) s := rfl
theorem w_Ko2_t {m : RT} : Ko2 true m s = some (.dat (.bool true), s) := rfl
theorem w_Ko2_f {m : RT} : Ko2 false m s = m := rfl
theorem w_Ko2 {c b : Bool} : Ko2 c (some (.dat (.bool b), s)) s = some (.dat (.bool (c || b)), s) := by cases c <;> rfl
theorem w_one {a : E} : evalE C refs (.one a) s = evalE C refs a s := by rw [evalE]
theorem w_cmp {o : COp} {vs : Vs} : evalE C refs (.cmp o vs) s = Kc o (evalVs C refs vs s) := by rw [evalE]; rfl
theorem w_Kc {o : COp} {ts : List T} : Kc o (some (ts, s)) = KB (cmpTs o ts) s := rfl
theorem w_cmp2 {o o' : COp} {a b c : E} : evalE C refs (.cmp2 o o' a b c) s = Kc1 C refs o o' b c (Kd (evalE C refs a s)) := by
  rw [evalE]
  unfold Kc1 Kc2 Kc3 Kc5 Kd
  congr
theorem w_Kc1 {o o' : COp} {b c : E} {x : D} : Kc1 C refs o o' b c (some (x, s)) = Kc2 C refs o o' x c (Kd (evalE C refs b s)) := rfl
theorem w_Kc2 {o o' : COp} {c : E} {x y : D} : Kc2 C refs o o' x c (some (y, s)) = Kc3 C refs o' y c (cmpT o (.dat x) (.dat y)) s := rfl
theorem w_Kc3 {o' : COp} {c : E} {y : D} {k : Bool} : Kc3 C refs o' y c (some k) s = Ka2 k (Kc5 o' y (Kd (evalE C refs c s))) s := rfl
theorem w_Kc5 {o' : COp} {y z : D} : Kc5 o' y (some (z, s)) = KB (cmpT o' (.dat y) (.dat z)) s := rfl
theorem w_isN {a : Bs} : evalE C refs (.isN a) s = KN (evalB C refs a s) := by rw [evalE]; rfl
theorem w_KN {t : T} : KN (some (t, s)) = some (.dat (.bool (isNone t)), s) := rfl
theorem w_isnN {a : Bs} : evalE C refs (.isnN a) s = KnN (evalB C refs a s) := by rw [evalE]; rfl
theorem w_KnN {t : T} : KnN (some (t, s)) = some (.dat (.bool (!isNone t)), s) := rfl
theorem w_ife {c a b : E} : evalE C refs (.ife c a b) s = Ki C refs a b (Kb (evalE C refs c s)) := by rw [evalE]; rfl
theorem w_Ki {a b : E} {k : Bool} : Ki C refs a b (some (k, s)) = Ki2 k (evalE C refs a s) (evalE C refs b s) := rfl
theorem w_Ki2_t {m n : RT} : Ki2 true m n = m := rfl
theorem w_Ki2_f {m n : RT} : Ki2 false m n = n := rfl
theorem w_Ki2_same {k : Bool} {m : RT} : Ki2 k m m = m := by cases k <;> rfl
theorem w_Ki2_int {k : Bool} {x y : Int} : Ki2 k (some (.dat (.int x), s)) (some (.dat (.int y), s)) = some (.dat (.int (if k then x else y)), s) := by cases k <;> rfl
theorem w_Ki2_bool {k : Bool} {x y : Bool} : Ki2 k (some (.dat (.bool x), s)) (some (.dat (.bool y), s)) = some (.dat (.bool (if k then x else y)), s) := by cases k <;> rfl
theorem w_bi {f : Bi} {vs : Vs} : evalE C refs (.bi f vs) s = Kbi f (evalVs C refs vs s) := by rw [evalE]; rfl
theorem w_Kbi {f : Bi} {ts : List T} : Kbi f (some (ts, s)) = K3 (biF f ts) s := rfl
theorem w_tup {es : Es} : evalE C refs (.tup es) s = Kt (evalEs C refs es s) := by rw [evalE]; rfl
theorem w_Kt {ts : List T} : Kt (some (ts, s)) = Kt2 (T.datas ts) s := rfl
theorem w_Kt2_0 : Kt2 (some []) s = some (.dat (.tuple []), s) := rfl
theorem w_Kt2_1 {a : D} : Kt2 (some [a]) s = some (.dat (.tuple [a]), s) := rfl
theorem w_Kt2_2 {a b : D} : Kt2 (some [a, b]) s = some (.dat (.tuple [a, b]), s) := rfl
theorem w_Kt2_3 {a b c : D} : Kt2 (some [a, b, c]) s = some (.dat (.tuple [a, b, c]), s) := rfl
theorem w_Kt2_4 {a b c d : D} : Kt2 (some [a, b, c, d]) s = some (.dat (.tuple [a, b, c, d]), s) := rfl
theorem w_Kt2 {ds : List D} (h : ds.length ≤ 1000000) : Kt2 (some ds) s = some (.dat (.tuple ds), s) := by simp [Kt2, h]
theorem w_lstE {es : Es} : evalE C refs (.lst es) s = Kl (evalEs C refs es s) := by rw [evalE]; rfl
theorem w_Kl_0 : Kl (some ([], s)) = some (.lst [], s) := rfl
theorem w_Kl_1 {a : T} : Kl (some ([a], s)) = some (.lst [a], s) := rfl
theorem w_Kl_2 {a b : T} : Kl (some ([a, b], s)) = some (.lst [a, b], s) := rfl
theorem w_Kl_3 {a b c : T} : Kl (some ([a, b, c], s)) = some (.lst [a, b, c], s) := rfl
theorem w_Kl_4 {a b c d : T} : Kl (some ([a, b, c, d], s)) = some (.lst [a, b, c, d], s) := rfl
theorem w_Kl {ts : List T} (h : ts.length ≤ 1000000) : Kl (some (ts, s)) = some (.lst ts, s) := by simp [Kl, h]
/-! Kf -/
theorem w_f_dat {d : D} : Kf (some (.dat d, s)) = some (.dat d, s) := rfl
theorem w_f_LE {α : Type} {f : α → D} {xs : List α} : Kf (some (LE f xs, s)) = some (.dat (DE f xs), s) := by simp [Kf, fOf, frz_LE]
theorem w_f_LL {α : Type} {f : α → D} {xs : List (List α)} : Kf (some (LL (LE f) xs, s)) = some (.dat (DE (DE f) xs), s) := by simp [Kf, fOf, frz_LL]
theorem w_f_lst {ts : List T} : Kf (some (.lst ts, s)) = (T.datas ts).map fun ds => (.dat (.list ds), s) := by simp [Kf, fOf, T.frz, T.data, Option.map_map, Function.comp_def]
theorem w_f_scr {ns : List Int} : Kf (some (.scr ns, s)) = some (.scr ns, s) := rfl
theorem w_f_dT {b : Bool} {kvs : List (List Key × D)} : Kf (some (.dT b kvs, s)) = some (.dT true kvs, s) := rfl
theorem w_f_dK {b : Bool} {kvs : List (Key × D)} : Kf (some (.dK b kvs, s)) = some (.dK true kvs, s) := rfl
/-! items -/
theorem w_idx_v {i : Nat} {ix : E} : evalE C refs (.idx (.pl (.mk i .nil)) ix) s = Kx1 C refs (.mk i .nil) ix (Pl.at (.mk i .nil) s) s := by rw [evalE]; rfl
theorem w_idx_p {i : Nat} {e : E} {es : Es} {ix : E} : evalE C refs (.idx (.pl (.mk i (.cons e es))) ix) s = Kxp (.mk i (.cons e es)) (pureK ix s) s := by rw [evalE]; rfl
theorem w_idx_e {e ix : E} : evalE C refs (.idx (.ex e) ix) s = Kxe1 C refs ix (Kf (evalE C refs e s)) := by rw [evalE]; rfl
theorem w_Kx1 {p : Pl} {ix : E} {t : T} : Kx1 C refs p ix (some t) s = Kx2 p (Kd (evalE C refs ix s)) := rfl
theorem w_Kx2 {p : Pl} {k : D} : Kx2 p (some (k, s)) = itemAt p k s := rfl
theorem w_Kxp {p : Pl} {k : D} : Kxp p (some k) s = itemAt p k s := rfl
theorem w_Kxe1 {ix : E} {t : T} : Kxe1 C refs ix (some (t, s)) = Kxe2 t (Kd (evalE C refs ix s)) := rfl
theorem w_Kxe2 {t : T} {k : D} : Kxe2 t (some (k, s)) = (itemT t k).map fun (u, _) => (u, s) := rfl
def Kit (p : Pl) (k : D) (s : S) (m : Option T) : RT := m.bind fun t => KI p s (itemT t k)
theorem w_itemAt {p : Pl} {k : D} : itemAt p k s = Kit p k s (p.at s) := rfl
theorem w_Kit {p : Pl} {k : D} {t : T} : Kit p k s (some t) = KI p s (itemT t k) := rfl
theorem w_KI_n {p : Pl} {u : T} : KI p s (some (u, none)) = some (u, s) := rfl
def Kput (u : T) (m : Option S) : RT := m.map fun s => (u, s)
theorem w_KI_s {p : Pl} {u t : T} : KI p s (some (u, some t)) = Kput u (p.put s t) := rfl
theorem w_Kput {u : T} : Kput u (some s) = some (u, s) := rfl
theorem w_at_v {i : Nat} : Pl.at (.mk i .nil) s = getS s i := by simp [Pl.at, pureIs, getP]
def Kat (s : S) (i : Nat) (m : Option (List Int)) : Option T := m.bind fun ks => (getS s i).bind fun t => getP t ks
theorem w_at_p {i : Nat} {e : E} {es : Es} : Pl.at (.mk i (.cons e es)) s = Kat s i (pureIs (.cons e es) s) := rfl
def Kat2 (ks : List Int) (m : Option T) : Option T := m.bind fun t => getP t ks
theorem w_Kat {i : Nat} {ks : List Int} : Kat s i (some ks) = Kat2 ks (getS s i) := rfl
theorem w_Kat2 {ks : List Int} {t : T} : Kat2 ks (some t) = getP t ks := rfl
theorem w_pureIs_nil : pureIs .nil s = some [] := rfl
theorem w_pureIs_cons {e : E} {es : Es} : pureIs (.cons e es) s = (pureI e s).bind fun k => (pureIs es s).map fun ks => k :: ks := rfl
theorem w_pureI_int {k : Int} : pureI (.int k) s = some k := rfl
def KpI : Option T → Option Int
  | some (.dat (.int k)) => some k
  | _ => none
theorem w_pureI_var {i : Nat} : pureI (.var i) s = KpI (getS s i) := by
  unfold pureI KpI
  split <;> simp_all
theorem w_KpI {k : Int} : KpI (some (.dat (.int k))) = some k := rfl
theorem w_pureI_bin {o : BOp} {a b : E} : pureI (.bin o a b) s = (pureI a s).bind fun i => (pureI b s).bind fun j => binI o i j := rfl
theorem w_pureI_neg {a : E} : pureI (.un .neg a) s = (pureI a s).map fun i => -i := rfl
def KpK : Option D → Option D
  | some (.list []) => none
  | o => o
theorem w_pureK {e : E} : pureK e s = KpK (pureD e s) := rfl
theorem w_KpK_int {k : Int} : KpK (some (.int k)) = some (.int k) := rfl
theorem w_KpK_bool {b : Bool} : KpK (some (.bool b)) = some (.bool b) := rfl
theorem w_KpK_tup {ds : List D} : KpK (some (.tuple ds)) = some (.tuple ds) := rfl
theorem w_KpK_str {x : Str} : KpK (some (.str x)) = some (.str x) := rfl
theorem w_KpK_non : KpK (some .none) = some .none := rfl
def KpD : Option T → Option D
  | some (.dat d) => some d
  | _ => none
theorem w_pureD_var {i : Nat} : pureD (.var i) s = KpD (getS s i) := by
  show (match getS s i with | some (.dat d) => some d | _ => none) = _
  unfold KpD
  rfl
theorem w_KpD {d : D} : KpD (some (.dat d)) = some d := rfl
theorem w_pureD_bl {b : Bool} : pureD (.bl b) s = some (.bool b) := rfl
theorem w_pureD_non : pureD .non s = some .none := rfl
theorem w_pureD_nil : pureD (.lst .nil) s = some (.list []) := rfl
theorem w_pureD_int {k : Int} : pureD (.int k) s = some (.int k) := rfl
theorem w_pureD_bin {o : BOp} {a b : E} : pureD (.bin o a b) s = (pureI (.bin o a b) s).map .int := rfl
theorem w_pureD_un {o : UOp} {a : E} : pureD (.un o a) s = (pureI (.un o a) s).map .int := rfl
theorem w_pureDs_nil : pureDs .nil s = some [] := rfl
theorem w_pureDs_cons {e : E} {es : Es} : pureDs (.cons e es) s = (pureK e s).bind fun d => (pureDs es s).map fun ds => d :: ds := rfl
theorem w_pureO_no : pureO .no s = some none := rfl
theorem w_pureO_yes {e : E} : pureO (.yes e) s = (pureI e s).map some := rfl
theorem w_look {p : Pl} : p.look s = (p.at s).bind T.look := rfl
theorem w_look_dat {d : D} : T.look (.dat d) = some (.dat d) := rfl
theorem w_look_LE {α : Type} {f : α → D} {xs : List α} : T.look (LE f xs) = some (.dat (DE f xs)) := by
  have h : ∀ xs : List α, flatT (xs.map fun x => T.dat (f x)) = some (xs.map f) := fun xs => by
    induction xs with
    | nil => rfl
    | cons x xs ih => simp [flatT, ih]
  simp [LE, T.look, h, DE]
theorem w_look_lst {ts : List T} : T.look (.lst ts) = (flatT ts).map fun ds => .dat (.list ds) := rfl
theorem w_flatT_nil : flatT [] = some [] := rfl
theorem w_flatT_cons {d : D} {ts : List T} : flatT (.dat d :: ts) = (flatT ts).map fun ds => d :: ds := rfl
theorem w_look_scr {ns : List Int} : T.look (.scr ns) = some (.scr ns) := rfl
theorem w_look_dT {b : Bool} {kvs : List (List Key × D)} : T.look (.dT b kvs) = some (.dT b kvs) := rfl
theorem w_look_dK {b : Bool} {kvs : List (Key × D)} : T.look (.dK b kvs) = some (.dK b kvs) := rfl
def Kpt (s : S) (i : Nat) (m : Option T) : Option S := m.map fun t' => s.set i (some t')
theorem w_put_v {i : Nat} {u : T} : Pl.put (.mk i .nil) s u = Kpt s i ((getS s i).bind fun _ => some u) := by
  simp only [Pl.put, pureIs, Kpt, Option.bind_some]
  cases getS s i <;> simp [setP]
def Kpp2 (i : Nat) (s : S) (ks : List Int) (u : T) (m : Option T) : Option S := m.bind fun t => Kpt s i (setP t ks u)
def Kpp (i : Nat) (u : T) (s : S) (m : Option (List Int)) : Option S := m.bind fun ks => Kpp2 i s ks u (getS s i)
theorem w_put_p {i : Nat} {e : E} {es : Es} {u : T} : Pl.put (.mk i (.cons e es)) s u = Kpp i u s (pureIs (.cons e es) s) := rfl
theorem w_Kpp {i : Nat} {u : T} {ks : List Int} : Kpp i u s (some ks) = Kpp2 i s ks u (getS s i) := rfl
theorem w_Kpp2 {i : Nat} {u t : T} {ks : List Int} : Kpp2 i s ks u (some t) = Kpt s i (setP t ks u) := rfl
theorem w_Kpt {i : Nat} {t : T} : Kpt s i (some t) = some (s.set i (some t)) := rfl
/-! slices -/
theorem w_slc_v {i : Nat} {lo hi : Oe} : evalE C refs (.slc (.pl (.mk i .nil)) lo hi) s = Ks1 C refs (.mk i .nil) lo hi (Pl.at (.mk i .nil) s) s := by rw [evalE]; rfl
theorem w_slc_p {i : Nat} {e : E} {es : Es} {lo hi : Oe} : evalE C refs (.slc (.pl (.mk i (.cons e es))) lo hi) s = Ksp (.mk i (.cons e es)) lo hi s := by rw [evalE]; rfl
theorem w_slc_e {e : E} {lo hi : Oe} : evalE C refs (.slc (.ex e) lo hi) s = Kse1 C refs lo hi (Kf (evalE C refs e s)) := by rw [evalE]; rfl
theorem w_Ks1 {p : Pl} {lo hi : Oe} {t : T} : Ks1 C refs p lo hi (some t) s = Ks2 C refs p hi (evalO C refs lo s) := rfl
theorem w_Ks2 {p : Pl} {hi : Oe} {i : Option Int} : Ks2 C refs p hi (some (i, s)) = Ks3 p i (evalO C refs hi s) := rfl
theorem w_Ks3 {p : Pl} {i j : Option Int} : Ks3 p i (some (j, s)) = Ks4 (p.look s) i j s := rfl
theorem w_Ks4 {t : T} {i j : Option Int} : Ks4 (some t) i j s = K3 (sliceT t i j) s := rfl
theorem w_Kse1 {lo hi : Oe} {t : T} : Kse1 C refs lo hi (some (t, s)) = Kse2 C refs t hi (evalO C refs lo s) := rfl
theorem w_Kse2 {t : T} {hi : Oe} {i : Option Int} : Kse2 C refs t hi (some (i, s)) = Kse3 t i (evalO C refs hi s) := rfl
theorem w_Kse3 {t : T} {i j : Option Int} : Kse3 t i (some (j, s)) = K3 (sliceT t i j) s := rfl
theorem w_Ksp {p : Pl} {lo hi : Oe} : Ksp p lo hi s = (pureO lo s).bind fun i => (pureO hi s).bind fun j => Ks4 (p.look s) i j s := rfl
theorem w_O_no : evalO C refs .no s = some (none, s) := by rw [evalO]
theorem w_O_yes {e : E} : evalO C refs (.yes e) s = Kop (Kd (evalE C refs e s)) := by rw [evalO]; rfl
theorem w_Kop {k : Int} : Kop (some (.int k, s)) = some (some k, s) := rfl
/-! methods -/
theorem w_meth {m : Me} {p : Pl} {es : Es} : evalE C refs (.meth m p es) s = Km1 C refs m p es s (p.at s) := by rw [evalE]; rfl
theorem w_Km1_v {m : Me} {i : Nat} {es : Es} {t : T} : Km1 C refs m (.mk i .nil) es s (some t) = if meK m t then Km2 m (.mk i .nil) (evalEs C refs es s) else none := rfl
theorem w_Km1_p {m : Me} {i : Nat} {e : E} {es' es : Es} {t : T} : Km1 C refs m (.mk i (.cons e es')) es s (some t) = if meK m t then (pureDs es s).bind fun ds => methAt m (.mk i (.cons e es')) (ds.map .dat) s else none := rfl
theorem w_Km2 {m : Me} {p : Pl} {ts : List T} : Km2 m p (some (ts, s)) = methAt m p ts s := rfl
def Kma (m : Me) (p : Pl) (ts : List T) (s : S) (r : Option T) : RT := r.bind fun t => Km3 p s (meF m t ts)
theorem w_methAt {m : Me} {p : Pl} {ts : List T} : methAt m p ts s = Kma m p ts s (p.at s) := rfl
theorem w_Kma {m : Me} {p : Pl} {ts : List T} {t : T} : Kma m p ts s (some t) = Km3 p s (meF m t ts) := rfl
theorem w_Km3 {p : Pl} {t u : T} : Km3 p s (some (t, u)) = Kput u (p.put s t) := rfl
theorem w_meK_append {α : Type} {f : α → D} {xs : List α} : meK .append (LE f xs) = true := rfl
theorem w_meK_append' {α : Type} {f : α → T} {xs : List α} : meK .append (LL f xs) = true := rfl
theorem w_meK_append'' {ts : List T} : meK .append (.lst ts) = true := rfl
theorem w_meK_extend {α : Type} {f : α → D} {xs : List α} : meK .extend (LE f xs) = true := rfl
theorem w_meK_extend'' {ts : List T} : meK .extend (.lst ts) = true := rfl
theorem w_meK_pop {α : Type} {f : α → D} {xs : List α} : meK .pop (LE f xs) = true := rfl
theorem w_meK_pop'' {ts : List T} : meK .pop (.lst ts) = true := rfl
theorem w_meK_popAt {α : Type} {f : α → D} {xs : List α} : meK .popAt (LE f xs) = true := rfl
theorem w_meK_popAt'' {ts : List T} : meK .popAt (.lst ts) = true := rfl
theorem w_meK_get1K {b : Bool} {kvs : List (Key × D)} : meK .get1 (.dK b kvs) = true := rfl
theorem w_meK_get1T {b : Bool} {kvs : List (List Key × D)} : meK .get1 (.dT b kvs) = true := rfl
theorem w_meK_get2K {b : Bool} {kvs : List (Key × D)} : meK .get2 (.dK b kvs) = true := rfl
theorem w_meK_get2T {b : Bool} {kvs : List (List Key × D)} : meK .get2 (.dT b kvs) = true := rfl
/-! comprehensions -/
theorem w_comp {elt : E} {own : List Nat} {tg : Tg} {it : Src} {ifs : Es} : evalE C refs (.comp elt own tg it ifs) s = Kcm2 C refs elt own tg ifs (evalSrc C refs it s) := by rw [evalE]; rfl
theorem w_Kcm2 {elt : E} {own : List Nat} {tg : Tg} {ifs : Es} {ds : List D} : Kcm2 C refs elt own tg ifs (some (ds, s)) = if ownFree s own then Kcm3 own s (compR C refs elt own tg ifs ds s) else none := rfl
theorem w_Kcm3 {own : List Nat} {ts : List T} {s1 : S} : Kcm3 own s (some (ts, s1)) = some (.lst ts, backS s (wipeS s1 own) own) := rfl
/-! dicts -/
theorem w_dnewT : evalE C refs (.dnew true) s = some (.dT false [], s) := by rw [evalE]; rfl
theorem w_dnewK : evalE C refs (.dnew false) s = some (.dK false [], s) := by rw [evalE]; rfl
theorem w_d1 {tk : Bool} {k v : E} : evalE C refs (.d1 tk k v) s = Kd1 C refs tk v (Kd (evalE C refs k s)) := by rw [evalE]; rfl
theorem w_Kd1 {tk : Bool} {v : E} {x : D} : Kd1 C refs tk v (some (x, s)) = Kd2 tk x (Kd (evalE C refs v s)) := rfl
theorem w_Kd2_T {ds : List D} {y : D} : Kd2 true (.tuple ds) (some (y, s)) = (toKeys ds).map fun k => (.dT false [(k, y)], s) := rfl
theorem w_Kd2_K {x y : D} : Kd2 false x (some (y, s)) = (toKey x).map fun k => (.dK false [(k, y)], s) := rfl
/-! calls -/
theorem w_call {f : Nat} {as : As} : evalE C refs (.call f as) s = Kcl C refs f as (evalAs C refs as s) := by rw [evalE]; rfl
def Kcb2 (as : As) (s : S) (r : Option (T × List (Option T))) : RT := bnd r fun t bs => (giveBack as bs s).map fun s => (t, s)
def Kcb (f : Nat) (as : As) (m : Option (List T × S)) (C : Nat → List T → Option (T × List (Option T))) : RT := bnd m fun us s => Kcb2 as s (C f us)
theorem w_Kcl {f : Nat} {as : As} {ts : List T} : Kcl C refs f as (some (ts, s)) = if patt as = refs f then Kcb f as (lend as ts s) C else none := rfl
theorem w_Kcb {f : Nat} {as : As} {us : List T} : Kcb f as (some (us, s)) C = Kcb2 as s (C f us) := rfl
theorem w_Kcb2 {as : As} {t : T} {bs : List (Option T)} : Kcb2 as s (some (t, bs)) = (giveBack as bs s).map fun s => (t, s) := rfl
theorem w_lend_nil {ts : List T} : lend .nil ts s = some ([], s) := rfl
def Kld2 (t : T) (m : Option (List T × S)) : Option (List T × S) := bnd m fun us s => some (t :: us, s)
def Kld (as : As) (ts : List T) (i : Nat) (s : S) (m : Option T) : Option (List T × S) := m.bind fun t => Kld2 t (lend as ts (s.set i none))
theorem w_lend_ref {i : Nat} {as : As} {ts : List T} : lend (.ref i as) ts s = Kld as ts i s (getS s i) := rfl
theorem w_Kld {as : As} {ts : List T} {i : Nat} {t : T} : Kld as ts i s (some t) = Kld2 t (lend as ts (s.set i none)) := rfl
theorem w_Kld2 {t : T} {us : List T} : Kld2 t (some (us, s)) = some (t :: us, s) := rfl
theorem w_lend_val {e : E} {as : As} {t : T} {ts : List T} : lend (.val e as) (t :: ts) s = Kld2 t (lend as ts s) := rfl
theorem w_gb_nil {us : List (Option T)} : giveBack .nil us s = some s := by cases us <;> rfl
theorem w_gb_ref {i : Nat} {as : As} {u : Option T} {us : List (Option T)} : giveBack (.ref i as) (u :: us) s = giveBack as us (s.set i u) := rfl
theorem w_gb_val {e : E} {as : As} {u : Option T} {us : List (Option T)} : giveBack (.val e as) (u :: us) s = giveBack as us s := rfl
theorem w_patt_nil : patt .nil = [] := rfl
theorem w_patt_ref {i : Nat} {as : As} : patt (.ref i as) = true :: patt as := rfl
theorem w_patt_val {e : E} {as : As} : patt (.val e as) = false :: patt as := rfl
theorem w_callK {f np : Nat} {es : Es} {ks : List Str} {perm : List Nat} : evalE C refs (.callK f np es ks perm) s = Kck C refs f ks.length perm (evalEs C refs es s) := by rw [evalE]; rfl
theorem w_Kck1 {f : Nat} {perm : List Nat} {t : T} {x : Str} : Kck C refs f [x].length perm (some ([t], s)) = callKW C refs f perm [t] s := rfl
theorem w_Kck2' {f : Nat} {perm : List Nat} {t u : T} {x y : Str} : Kck C refs f [x, y].length perm (some ([t, u], s)) = callKW C refs f perm [t, u] s := rfl
theorem w_Kck3' {f : Nat} {perm : List Nat} {t u v : T} {x y z : Str} : Kck C refs f [x, y, z].length perm (some ([t, u, v], s)) = callKW C refs f perm [t, u, v] s := rfl
def Kck3 (s : S) (m : Option (T × List (Option T))) : RT := bnd m fun t _ => some (t, s)
def Kck2 (f : Nat) (perm : List Nat) (s : S) (C : Nat → List T → Option (T × List (Option T))) (m : Option (List D)) : RT := m.bind fun ds => (perm.mapM fun j => (ds[j]?).map T.dat).bind fun us => Kck3 s (C f us)
def Kck4 (rs : List Bool) (f : Nat) (perm : List Nat) (s : S) (C : Nat → List T → Option (T × List (Option T))) (m : Option (List D)) : RT := if rs.all (fun b => !b) then Kck2 f perm s C m else none
theorem w_callKW {f : Nat} {perm : List Nat} {ts : List T} : callKW C refs f perm ts s = Kck4 (refs f) f perm s C (T.datas ts) := by
  unfold callKW Kck4 Kck2
  cases T.datas ts with
  | none => simp only [Option.bind_none]; split <;> rfl
  | some ds =>
    simp only [Option.bind_some]
    split <;> rfl
theorem w_Kck4_n {f : Nat} {perm : List Nat} {m : Option (List D)} : Kck4 [] f perm s C m = Kck2 f perm s C m := rfl
theorem w_Kck4_f {rs : List Bool} {f : Nat} {perm : List Nat} {m : Option (List D)} : Kck4 (false :: rs) f perm s C m = Kck4 rs f perm s C m := rfl
theorem w_Kck2_1 {f : Nat} {a : D} : Kck2 f [0] s C (some [a]) = Kck3 s (C f [.dat a]) := rfl
theorem w_Kck2_01 {f : Nat} {a b : D} : Kck2 f [0, 1] s C (some [a, b]) = Kck3 s (C f [.dat a, .dat b]) := rfl
theorem w_Kck2_10 {f : Nat} {a b : D} : Kck2 f [1, 0] s C (some [a, b]) = Kck3 s (C f [.dat b, .dat a]) := rfl
theorem w_Kck2_012 {f : Nat} {a b c : D} : Kck2 f [0, 1, 2] s C (some [a, b, c]) = Kck3 s (C f [.dat a, .dat b, .dat c]) := rfl
theorem w_Kck2_021 {f : Nat} {a b c : D} : Kck2 f [0, 2, 1] s C (some [a, b, c]) = Kck3 s (C f [.dat a, .dat c, .dat b]) := rfl
theorem w_Kck2_102 {f : Nat} {a b c : D} : Kck2 f [1, 0, 2] s C (some [a, b, c]) = Kck3 s (C f [.dat b, .dat a, .dat c]) := rfl
theorem w_Kck2_120 {f : Nat} {a b c : D} : Kck2 f [1, 2, 0] s C (some [a, b, c]) = Kck3 s (C f [.dat b, .dat c, .dat a]) := rfl
theorem w_Kck2_201 {f : Nat} {a b c : D} : Kck2 f [2, 0, 1] s C (some [a, b, c]) = Kck3 s (C f [.dat c, .dat a, .dat b]) := rfl
theorem w_Kck2_210 {f : Nat} {a b c : D} : Kck2 f [2, 1, 0] s C (some [a, b, c]) = Kck3 s (C f [.dat c, .dat b, .dat a]) := rfl
theorem w_Kck2_0123 {f : Nat} {a b c d : D} : Kck2 f [0, 1, 2, 3] s C (some [a, b, c, d]) = Kck3 s (C f [.dat a, .dat b, .dat c, .dat d]) := rfl
theorem w_Kck2_0132 {f : Nat} {a b c d : D} : Kck2 f [0, 1, 3, 2] s C (some [a, b, c, d]) = Kck3 s (C f [.dat a, .dat b, .dat d, .dat c]) := rfl
theorem w_Kck2_0213 {f : Nat} {a b c d : D} : Kck2 f [0, 2, 1, 3] s C (some [a, b, c, d]) = Kck3 s (C f [.dat a, .dat c, .dat b, .dat d]) := rfl
theorem w_Kck2_0231 {f : Nat} {a b c d : D} : Kck2 f [0, 2, 3, 1] s C (some [a, b, c, d]) = Kck3 s (C f [.dat a, .dat c, .dat d, .dat b]) := rfl
theorem w_Kck2_0312 {f : Nat} {a b c d : D} : Kck2 f [0, 3, 1, 2] s C (some [a, b, c, d]) = Kck3 s (C f [.dat a, .dat d, .dat b, .dat c]) := rfl
theorem w_Kck2_0321 {f : Nat} {a b c d : D} : Kck2 f [0, 3, 2, 1] s C (some [a, b, c, d]) = Kck3 s (C f [.dat a, .dat d, .dat c, .dat b]) := rfl
theorem w_Kck2_1023 {f : Nat} {a b c d : D} : Kck2 f [1, 0, 2, 3] s C (some [a, b, c, d]) = Kck3 s (C f [.dat b, .dat a, .dat c, .dat d]) := rfl
theorem w_Kck2_1032 {f : Nat} {a b c d : D} : Kck2 f [1, 0, 3, 2] s C (some [a, b, c, d]) = Kck3 s (C f [.dat b, .dat a, .dat d, .dat c]) := rfl
theorem w_Kck2_1203 {f : Nat} {a b c d : D} : Kck2 f [1, 2, 0, 3] s C (some [a, b, c, d]) = Kck3 s (C f [.dat b, .dat c, .dat a, .dat d]) := rfl
theorem w_Kck2_1230 {f : Nat} {a b c d : D} : Kck2 f [1, 2, 3, 0] s C (some [a, b, c, d]) = Kck3 s (C f [.dat b, .dat c, .dat d, .dat a]) := rfl
theorem w_Kck2_1302 {f : Nat} {a b c d : D} : Kck2 f [1, 3, 0, 2] s C (some [a, b, c, d]) = Kck3 s (C f [.dat b, .dat d, .dat a, .dat c]) := rfl
theorem w_Kck2_1320 {f : Nat} {a b c d : D} : Kck2 f [1, 3, 2, 0] s C (some [a, b, c, d]) = Kck3 s (C f [.dat b, .dat d, .dat c, .dat a]) := rfl
theorem w_Kck2_2013 {f : Nat} {a b c d : D} : Kck2 f [2, 0, 1, 3] s C (some [a, b, c, d]) = Kck3 s (C f [.dat c, .dat a, .dat b, .dat d]) := rfl
theorem w_Kck2_2031 {f : Nat} {a b c d : D} : Kck2 f [2, 0, 3, 1] s C (some [a, b, c, d]) = Kck3 s (C f [.dat c, .dat a, .dat d, .dat b]) := rfl
theorem w_Kck2_2103 {f : Nat} {a b c d : D} : Kck2 f [2, 1, 0, 3] s C (some [a, b, c, d]) = Kck3 s (C f [.dat c, .dat b, .dat a, .dat d]) := rfl
theorem w_Kck2_2130 {f : Nat} {a b c d : D} : Kck2 f [2, 1, 3, 0] s C (some [a, b, c, d]) = Kck3 s (C f [.dat c, .dat b, .dat d, .dat a]) := rfl
theorem w_Kck2_2301 {f : Nat} {a b c d : D} : Kck2 f [2, 3, 0, 1] s C (some [a, b, c, d]) = Kck3 s (C f [.dat c, .dat d, .dat a, .dat b]) := rfl
theorem w_Kck2_2310 {f : Nat} {a b c d : D} : Kck2 f [2, 3, 1, 0] s C (some [a, b, c, d]) = Kck3 s (C f [.dat c, .dat d, .dat b, .dat a]) := rfl
theorem w_Kck2_3012 {f : Nat} {a b c d : D} : Kck2 f [3, 0, 1, 2] s C (some [a, b, c, d]) = Kck3 s (C f [.dat d, .dat a, .dat b, .dat c]) := rfl
theorem w_Kck2_3021 {f : Nat} {a b c d : D} : Kck2 f [3, 0, 2, 1] s C (some [a, b, c, d]) = Kck3 s (C f [.dat d, .dat a, .dat c, .dat b]) := rfl
theorem w_Kck2_3102 {f : Nat} {a b c d : D} : Kck2 f [3, 1, 0, 2] s C (some [a, b, c, d]) = Kck3 s (C f [.dat d, .dat b, .dat a, .dat c]) := rfl
theorem w_Kck2_3120 {f : Nat} {a b c d : D} : Kck2 f [3, 1, 2, 0] s C (some [a, b, c, d]) = Kck3 s (C f [.dat d, .dat b, .dat c, .dat a]) := rfl
theorem w_Kck2_3201 {f : Nat} {a b c d : D} : Kck2 f [3, 2, 0, 1] s C (some [a, b, c, d]) = Kck3 s (C f [.dat d, .dat c, .dat a, .dat b]) := rfl
theorem w_Kck2_3210 {f : Nat} {a b c d : D} : Kck2 f [3, 2, 1, 0] s C (some [a, b, c, d]) = Kck3 s (C f [.dat d, .dat c, .dat b, .dat a]) := rfl
theorem w_Kck3 {t : T} {bs : List (Option T)} : Kck3 s (some (t, bs)) = some (t, s) := rfl
/-! lists of expressions -/
theorem w_Es_nil : evalEs C refs .nil s = some ([], s) := by rw [evalEs]
theorem w_Es_cons {e : E} {es : Es} : evalEs C refs (.cons e es) s = KEs C refs es (evalE C refs e s) := by rw [evalEs]; rfl
theorem w_KEs {es : Es} {t : T} : KEs C refs es (some (t, s)) = KEs2 t (evalEs C refs es s) := rfl
theorem w_KEs2 {t : T} {ts : List T} : KEs2 t (some (ts, s)) = some (t :: ts, s) := rfl
theorem w_As_nil : evalAs C refs .nil s = some ([], s) := by rw [evalAs]
theorem w_As_val {e : E} {as : As} : evalAs C refs (.val e as) s = KAs C refs as (Kf (evalE C refs e s)) := by rw [evalAs]; rfl
theorem w_KAs {as : As} {t : T} : KAs C refs as (some (t, s)) = KEs2 t (evalAs C refs as s) := rfl
def KAr (as : As) (s : S) (C : Nat → List T → Option (T × List (Option T))) (refs : Nat → List Bool) (m : Option T) : Option (List T × S) := m.bind fun _ => evalAs C refs as s
theorem w_As_ref {i : Nat} {as : As} : evalAs C refs (.ref i as) s = KAr as s C refs (getS s i) := by rw [evalAs]; rfl
theorem w_KAr {as : As} {t : T} : KAr as s C refs (some t) = evalAs C refs as s := rfl
theorem w_V1 {a : Bs} : evalVs C refs (.one a) s = KV1 (evalB C refs a s) := by rw [evalVs]; rfl
theorem w_KV1 {t : T} : KV1 (some (t, s)) = some ([t], s) := rfl
theorem w_V2e {e : E} {b : Bs} : evalVs C refs (.two (.ex e) b) s = KV2 C refs b (Kf (evalE C refs e s)) := by rw [evalVs]; rfl
theorem w_KV2 {b : Bs} {t : T} : KV2 C refs b (some (t, s)) = KV3 t (evalB C refs b s) := rfl
theorem w_KV3 {x y : T} : KV3 x (some (y, s)) = some ([x, y], s) := rfl
theorem w_V2pp {p q : Pl} : evalVs C refs (.two (.pl p) (.pl q)) s = (p.look s).bind fun x => (q.look s).map fun y => ([x, y], s) := by rw [evalVs]
theorem w_V2v {i : Nat} {e : E} : evalVs C refs (.two (.pl (.mk i .nil)) (.ex e)) s = KVp1 C refs (.mk i .nil) e (Pl.at (.mk i .nil) s) s := by rw [evalVs]; rfl
theorem w_V2p {i : Nat} {e' : E} {es : Es} {e : E} : evalVs C refs (.two (.pl (.mk i (.cons e' es))) (.ex e)) s = (pureD e s).bind fun y => ((Pl.mk i (.cons e' es)).look s).map fun x => ([x, .dat y], s) := by rw [evalVs]; rfl
theorem w_KVp1 {p : Pl} {e : E} {t : T} : KVp1 C refs p e (some t) s = KVp2 p (Kf (evalE C refs e s)) := rfl
theorem w_KVp2 {p : Pl} {y : T} : KVp2 p (some (y, s)) = (p.look s).map fun x => ([x, y], s) := rfl
theorem w_B_p {p : Pl} : evalB C refs (.pl p) s = (p.look s).map fun t => (t, s) := by rw [evalB]
theorem w_B_e {e : E} : evalB C refs (.ex e) s = Kf (evalE C refs e s) := by rw [evalB]; rfl
theorem w_If_nil : evalIfs C refs .nil s = some (true, s) := by rw [evalIfs]
theorem w_If_cons {e : E} {es : Es} : evalIfs C refs (.cons e es) s = KIf1 C refs es (Kb (evalE C refs e s)) := by rw [evalIfs]; rfl
theorem w_KIf1 {es : Es} {b : Bool} : KIf1 C refs es (some (b, s)) = KIf2 C refs b es s := rfl
theorem w_KIf2 {b : Bool} : KIf2 C refs b .nil s = some (b, s) := by cases b <;> simp [KIf2, evalIfs]
/-! sources -/
theorem w_S_seq {e : E} : evalSrc C refs (.seq e) s = KS1 (Kd (evalE C refs e s)) := by rw [evalSrc]; rfl
theorem w_KS1 {d : D} : KS1 (some (d, s)) = (seqD d).map fun ds => (ds, s) := rfl
theorem w_seqD_DE {α : Type} {f : α → D} {xs : List α} : seqD (DE f xs) = some (xs.map f) := rfl
theorem w_seqD_TE {α : Type} {f : α → D} {xs : List α} : seqD (TE f xs) = some (xs.map f) := rfl
theorem w_seqD_l {ds : List D} : seqD (.list ds) = some ds := rfl
theorem w_seqD_t {ds : List D} : seqD (.tuple ds) = some ds := rfl
theorem rangeD_eq (lo : Int) : ∀ n : Nat, rangeD lo n = (List.range n).map fun (i : Nat) => .int (lo + (i : Int))
  | 0 => rfl
  | n + 1 => by
    rw [rangeD, rangeD_eq (lo + 1) n, List.range_succ_eq_map, List.map_cons, List.map_map]
    congr 1
    · simp
    · apply List.map_congr_left
      intro a _
      simp; omega
theorem smallI_ok {i : Int} (h : -4611686018427387904 ≤ i) (h' : i < 4611686018427387904) : smallI i = true := by
  unfold smallI; simp; omega
theorem w_S_rng1 {a : E} : evalSrc C refs (.rng1 a) s = Krg1 (Kd (evalE C refs a s)) := by rw [evalSrc]; rfl
def dNs (n : Nat) : List D := (List.range n).map dN
def dIs (lo : Int) (n : Nat) : List D := (List.range n).map fun (i : Nat) => .int (lo + (i : Int))
theorem w_Krg1 {i : Int} (h : -4611686018427387904 ≤ i) (h' : i < 4611686018427387904) : Krg1 (some (.int i, s)) = some ((List.range i.toNat).map dN, s) := by
  unfold Krg1
  rw [bnd_some]
  show (if smallI i = true then _ else _) = _
  rw [if_pos (smallI_ok h h'), rangeD_eq]
  simp only [Int.zero_add]; rfl
theorem w_S_rng2 {a b : E} : evalSrc C refs (.rng2 a b) s = Krg2 C refs b (Kd (evalE C refs a s)) := by rw [evalSrc]; rfl
theorem w_Krg2 {b : E} {x : D} : Krg2 C refs b (some (x, s)) = Krg2b x (Kd (evalE C refs b s)) := rfl
theorem w_Krg2b {i j : Int} (h1 : -4611686018427387904 ≤ i) (h2 : i < 4611686018427387904) (h3 : -4611686018427387904 ≤ j) (h4 : j < 4611686018427387904) : Krg2b (.int i) (some (.int j, s)) = some ((List.range (j - i).toNat).map (fun (k : Nat) => .int (i + (k : Int))), s) := by
  unfold Krg2b
  rw [bnd_some]
  show (if (smallI i && smallI j) = true then _ else _) = _
  rw [if_pos (by rw [smallI_ok h1 h2, smallI_ok h3 h4]; rfl), rangeD_eq]
theorem w_S_rng3 {a b c : E} : evalSrc C refs (.rng3 a b c) s = Krg3 C refs b c (Kd (evalE C refs a s)) := by rw [evalSrc]; rfl
theorem w_Krg3 {b c : E} {x : D} : Krg3 C refs b c (some (x, s)) = Krg3b C refs x c (Kd (evalE C refs b s)) := rfl
theorem w_Krg3b {c : E} {x y : D} : Krg3b C refs x c (some (y, s)) = Krg3c x y (Kd (evalE C refs c s)) := rfl
theorem enumD_eq (n : Nat) : ∀ ds : List D, enumD n ds = ds.mapIdx fun i d => .tuple [.int ((n + i : Nat) : Int), d]
  | [] => rfl
  | d :: ds => by
    rw [enumD, enumD_eq (n + 1) ds, List.mapIdx_cons]
    congr 1
    apply List.mapIdx_eq_iff.mpr
    intro i
    simp only [List.getElem?_mapIdx]
    cases ds[i]? <;> simp
    omega
theorem w_S_enum {e : E} : evalSrc C refs (.enum e) s = Ken (Kd (evalE C refs e s)) := by rw [evalSrc]; rfl
theorem w_Ken {α : Type} {f : α → D} {xs : List α} : Ken (some (DE f xs, s)) = some (xs.zipIdx.map (fun p => .tuple [.int (p.2 : Int), f p.1]), s) := by
  show some (enumD 0 (xs.map f), s) = _
  congr 2
  have h : ∀ (n : Nat) (xs : List α), enumD n (xs.map f) = (xs.zipIdx n).map (fun p => .tuple [.int (p.2 : Int), f p.1]) := fun n xs => by
    induction xs generalizing n with
    | nil => rfl
    | cons x xs ih => simp [enumD, ih (n + 1), List.zipIdx_cons]
  exact h 0 xs
theorem w_S_zip {a b : E} : evalSrc C refs (.zip a b) s = Kzp1 C refs b (Kd (evalE C refs a s)) := by rw [evalSrc]; rfl
theorem w_Kzp1 {b : E} {x : D} : Kzp1 C refs b (some (x, s)) = Kzp2 x (Kd (evalE C refs b s)) := rfl
theorem zipD_eq {α β : Type} {f : α → D} {g : β → D} : ∀ (xs : List α) (ys : List β), zipD (xs.map f) (ys.map g) = (xs.zip ys).map (p2 f g)
  | [], _ => by simp [zipD]
  | _ :: _, [] => by simp [zipD]
  | x :: xs, y :: ys => by simp [zipD, zipD_eq xs ys, p2]
theorem w_Kzp2_l {α β : Type} {f : α → D} {g : β → D} {xs : List α} {ys : List β} : Kzp2 (DE f xs) (some (DE g ys, s)) = some ((xs.zip ys).map (p2 f g), s) := by
  show some (zipD (xs.map f) (ys.map g), s) = _
  rw [zipD_eq]
theorem w_Kzp2_t {α β : Type} {f : α → D} {g : β → D} {xs : List α} {ys : List β} : Kzp2 (TE f xs) (some (TE g ys, s)) = some ((xs.zip ys).map (p2 f g), s) := by
  show some (zipD (xs.map f) (ys.map g), s) = _
  rw [zipD_eq]
theorem w_Kzp2_l' {xs ys : List D} : Kzp2 (.list xs) (some (.list ys, s)) = some (zipD xs ys, s) := rfl
theorem w_Kzp2_t' {xs ys : List D} : Kzp2 (.tuple xs) (some (.tuple ys, s)) = some (zipD xs ys, s) := rfl
/-! targets -/
theorem w_T_nm {i : Nat} {t : T} : assT C refs (.nm i) t s = some (s.set i (some t)) := by rw [assT]
theorem w_T_tp {ts : Tgs} {ds : List D} : assT C refs (.tp ts) (.dat (.tuple ds)) s = assTs C refs ts ds s := by rw [assT]
theorem w_T_p2 {ts : Tgs} {α β : Type} {f : α → D} {g : β → D} {p : α × β} : assT C refs (.tp ts) (.dat (p2 f g p)) s = assTs C refs ts [f p.1, g p.2] s := by rw [p2, assT]
theorem w_T_subv {i : Nat} {ix : E} {t : T} : assT C refs (.sub (.mk i .nil) ix) t s = Ksb1 C refs (.mk i .nil) ix t (Pl.at (.mk i .nil) s) s := by rw [assT]; rfl
theorem w_T_subp {i : Nat} {e : E} {es : Es} {ix : E} {t : T} : assT C refs (.sub (.mk i (.cons e es)) ix) t s = Ksbp (.mk i (.cons e es)) t s (pureK ix s) := by rw [assT]; rfl
theorem w_Ksb1 {p : Pl} {ix : E} {t u : T} : Ksb1 C refs p ix t (some u) s = Ksb2 p t (Kd (evalE C refs ix s)) := rfl
theorem w_Ksb2 {p : Pl} {t : T} {k : D} : Ksb2 p t (some (k, s)) = storeAt p k t s := rfl
theorem w_Ksbp {p : Pl} {t : T} {k : D} : Ksbp p t s (some k) = storeAt p k t s := rfl
def Kst (p : Pl) (k : D) (u : T) (s : S) (m : Option T) : Option S := m.bind fun t => Ksb3 p s (storeT t k u)
theorem w_storeAt {p : Pl} {k : D} {u : T} : storeAt p k u s = Kst p k u s (p.at s) := rfl
theorem w_Kst {p : Pl} {k : D} {u t : T} : Kst p k u s (some t) = Ksb3 p s (storeT t k u) := rfl
theorem w_Ksb3 {p : Pl} {t : T} : Ksb3 p s (some t) = p.put s t := rfl
theorem w_Ts_nil : assTs C refs .nil [] s = some s := by rw [assTs]
theorem w_Ts_cons {t : Tg} {ts : Tgs} {d : D} {ds : List D} : assTs C refs (.cons t ts) (d :: ds) s = Kts C refs ts ds (assT C refs t (.dat d) s) := by rw [assTs]; rfl
theorem w_Kts {ts : Tgs} {ds : List D} : Kts C refs ts ds (some s) = assTs C refs ts ds s := rfl
/-! statements -/
variable {W : Nat}
theorem w_asg {t : Tg} {e : E} : execS C refs W (.asg t e) s = Kasg C refs t (evalE C refs e s) := by rw [execS]; rfl
theorem w_Kasg {t : Tg} {u : T} : Kasg C refs t (some (u, s)) = Knx (assT C refs t u s) := rfl
theorem w_Knx : Knx (some s) = some (.nx s) := rfl
theorem w_par {i j : Nat} {a b : E} : execS C refs W (.par i j a b) s = Kp1 C refs i j b (evalE C refs a s) := by rw [execS]; rfl
theorem w_parT {i j : Nat} {a b : E} : execS C refs W (.parT i j a b) s = Kp1 C refs i j b (evalE C refs a s) := by rw [execS]; rfl
theorem w_Kp1 {i j : Nat} {b : E} {x : T} : Kp1 C refs i j b (some (x, s)) = Kp2 i j x (evalE C refs b s) := rfl
theorem w_Kp2 {i j : Nat} {x y : T} : Kp2 i j x (some (y, s)) = some (.nx ((s.set i (some x)).set j (some y))) := rfl
theorem w_par3 {i j k : Nat} {a b c : E} : execS C refs W (.par3 i j k a b c) s = Kq1 C refs i j k b c (evalE C refs a s) := by rw [execS]; rfl
theorem w_Kq1 {i j k : Nat} {b c : E} {x : T} : Kq1 C refs i j k b c (some (x, s)) = Kq2 C refs i j k x c (evalE C refs b s) := rfl
theorem w_Kq2 {i j k : Nat} {c : E} {x y : T} : Kq2 C refs i j k x c (some (y, s)) = Kq3 i j k x y (evalE C refs c s) := rfl
theorem w_Kq3 {i j k : Nat} {x y z : T} : Kq3 i j k x y (some (z, s)) = some (.nx (((s.set i (some x)).set j (some y)).set k (some z))) := rfl
theorem w_expr {e : E} : execS C refs W (.expr e) s = Kex (evalE C refs e s) := by rw [execS]; rfl
theorem w_Kex {t : T} : Kex (some (t, s)) = some (.nx s) := rfl
theorem w_if {c : E} {a b : Cmds} : execS C refs W (.ife c a b) s = Kif C refs W a b (Kb (evalE C refs c s)) := by rw [execS]; rfl
theorem w_Kif_t {a b : Cmds} : Kif C refs W a b (some (true, s)) = execSs C refs W a s := rfl
theorem w_Kif_f {a b : Cmds} : Kif C refs W a b (some (false, s)) = execSs C refs W b s := rfl
theorem w_for {t : Tg} {it : Src} {body : Cmds} : execS C refs W (.forS t it body) s = Kfor C refs W t body (evalSrc C refs it s) := by rw [execS]; rfl
theorem w_Kfor {t : Tg} {body : Cmds} {ds : List D} : Kfor C refs W t body (some (ds, s)) = forR C refs W t body ds s := rfl
theorem w_while {c : E} {body : Cmds} : execS C refs W (.whil c body) s = whileR C refs W c body s := by rw [execS]; rfl
theorem w_ret {e : E} : execS C refs W (.ret e) s = Kret (evalE C refs e s) := by rw [execS]; rfl
theorem w_Kret {t : T} : Kret (some (t, s)) = some (.rt t s) := rfl
theorem w_retN : execS C refs W .retN s = some (.rt (.dat .none) s) := by rw [execS]
theorem w_brk : execS C refs W .brk s = some (.bk s) := by rw [execS]
theorem w_cont : execS C refs W .cont s = some (.ct s) := by rw [execS]
theorem w_pas : execS C refs W .pas s = some (.nx s) := by rw [execS]
theorem w_Ss_nil : execSs C refs W .nil s = some (.nx s) := by rw [execSs]
theorem w_Ss_cons {st : Cmd} {ss : Cmds} : execSs C refs W (.cons st ss) s = Kseq C refs W ss (execS C refs W st s) := by rw [execSs]; rfl
theorem w_Kseq_nx {ss : Cmds} : Kseq C refs W ss (some (.nx s)) = execSs C refs W ss s := rfl
theorem w_Kseq_rt {ss : Cmds} {t : T} : Kseq C refs W ss (some (.rt t s)) = some (.rt t s) := rfl
theorem w_Kseq_bk {ss : Cmds} : Kseq C refs W ss (some (.bk s)) = some (.bk s) := rfl
theorem w_Kseq_ct {ss : Cmds} : Kseq C refs W ss (some (.ct s)) = some (.ct s) := rfl
theorem w_Krun_rt {rs : List Bool} {t : T} : Krun rs (some (.rt t s)) = some (t, finals rs s) := rfl
theorem w_Krun_nx {rs : List Bool} : Krun rs (some (.nx s)) = some (.dat .none, finals rs s) := rfl
theorem w_fin_nil : finals [] s = [] := rfl
theorem w_fin_t {bs : List Bool} {t : Option T} : finals (true :: bs) (t :: s) = t :: finals bs s := rfl
theorem w_fin_f {bs : List Bool} {t : Option T} : finals (false :: bs) (t :: s) = none :: finals bs s := rfl
/-! slots -/
theorem w_get_0 {t : Option T} : getS (t :: s) 0 = t := rfl
theorem w_get_s {t : Option T} {n : Nat} : getS (t :: s) (n + 1) = getS s n := by simp [getS]
theorem w_set_0 {t u : Option T} : List.set (t :: s) 0 u = u :: s := rfl
theorem w_set_s {t u : Option T} {n : Nat} : List.set (t :: s) (n + 1) u = t :: List.set s n u := rfl
end
end Eng

/-! ### Wp1 -/
/-! Wp1: what operators, places and methods tell of encoded things. -/
namespace Eng
open PySem L2
/-! ### ints -/
theorem w_add {i j : Int} : binD .add (.int i) (.int j) = some (.dat (.int (i + j))) := rfl
theorem w_sub {i j : Int} : binD .sub (.int i) (.int j) = some (.dat (.int (i - j))) := rfl
theorem w_mulL {i j : Int} (h : -18446744073709551616 < i) (h' : i < 18446744073709551616) : binD .mul (.int i) (.int j) = some (.dat (.int (i * j))) := by
  have : mulOk i j = true := by unfold mulOk; simp only [Bool.or_eq_true, decide_eq_true_eq]; left; left; omega
  simp [binD, binI, this]
theorem w_mulR {i j : Int} (h : -18446744073709551616 < j) (h' : j < 18446744073709551616) : binD .mul (.int i) (.int j) = some (.dat (.int (i * j))) := by
  have : mulOk i j = true := by unfold mulOk; simp only [Bool.or_eq_true, decide_eq_true_eq]; left; right; omega
  simp [binD, binI, this]
theorem w_mulI {i j : Int} (h : mulOk i j = true) : binI .mul i j = some (i * j) := by simp [binI, h]
theorem mulOkL {i j : Int} (h : -18446744073709551616 < i) (h' : i < 18446744073709551616) : mulOk i j = true := by unfold mulOk; simp only [Bool.or_eq_true, decide_eq_true_eq]; left; left; omega
theorem mulOkR {i j : Int} (h : -18446744073709551616 < j) (h' : j < 18446744073709551616) : mulOk i j = true := by unfold mulOk; simp only [Bool.or_eq_true, decide_eq_true_eq]; left; right; omega
theorem w_fdiv {i j : Int} (h : 0 < j) (h' : j < 1073741824) : binD .fdiv (.int i) (.int j) = some (.dat (.int (i / j))) := by
  have h1 : j ≠ 0 := by omega
  have h2 : j.natAbs < 1073741824 := by omega
  simp [binD, binI, h1, h2, Int.fdiv_eq_ediv_of_nonneg i (by omega : 0 ≤ j)]
theorem w_mod {i j : Int} (h : 0 < j) : binD .mod (.int i) (.int j) = some (.dat (.int (i % j))) := by
  have h1 : j ≠ 0 := by omega
  simp [binD, binI, h1, Int.fmod_eq_emod_of_nonneg i (by omega : 0 ≤ j)]
theorem w_shl {i j : Int} (h : 0 ≤ j) (h' : j ≤ 100000) (h1 : -18446744073709551616 < i) (h2 : i < 18446744073709551616) : binD .shl (.int i) (.int j) = some (.dat (.int (i * 2 ^ j.toNat))) := by
  have : decide (0 ≤ j) && decide (j ≤ 100000) && decide (i.natAbs < 2 ^ 64) := by simp; omega
  simp only [binD, binI, this, if_true, Option.map_some]
theorem w_shr {i j : Int} (h : 0 ≤ j) : binD .shr (.int i) (.int j) = some (.dat (.int (i / 2 ^ j.toNat))) := by
  simp [binD, binI, h]
theorem w_pow {i j : Int} (h : 0 ≤ j) (h' : j ≤ 100000) (h1 : -18446744073709551616 < i) (h2 : i < 18446744073709551616) : binD .pow (.int i) (.int j) = some (.dat (.int (i ^ j.toNat))) := by
  have : decide (0 ≤ j) && decide (j ≤ 100000) && decide (i.natAbs < 2 ^ 64) := by simp; omega
  simp only [binD, binI, this, if_true, Option.map_some]
theorem w_band {i j : Int} : binD .band (.int i) (.int j) = some (.dat (.int (Builtin.bitAnd i j))) := rfl
theorem w_bor {i j : Int} : binD .bor (.int i) (.int j) = some (.dat (.int (Builtin.bitOr i j))) := rfl
theorem w_iadd {i j : Int} : binI .add i j = some (i + j) := rfl
theorem w_isub {i j : Int} : binI .sub i j = some (i - j) := rfl
theorem w_neg {i : Int} : unD .neg (.int i) = some (.int (-i)) := rfl
theorem w_not {b : Bool} : unD .nt (.bool b) = some (.bool (!b)) := rfl
theorem w_cmpTs {o : COp} {x y : T} : cmpTs o [x, y] = cmpT o x y := rfl
theorem w_eqI {i j : Int} : cmpT .eq (.dat (.int i)) (.dat (.int j)) = some (decide (i = j)) := rfl
theorem w_neI {i j : Int} : cmpT .ne (.dat (.int i)) (.dat (.int j)) = some (!decide (i = j)) := rfl
theorem w_ltI {i j : Int} : cmpT .lt (.dat (.int i)) (.dat (.int j)) = some (decide (i < j)) := rfl
theorem w_leI {i j : Int} : cmpT .le (.dat (.int i)) (.dat (.int j)) = some (decide (i ≤ j)) := rfl
theorem w_gtI {i j : Int} : cmpT .gt (.dat (.int i)) (.dat (.int j)) = some (decide (j < i)) := rfl
theorem w_geI {i j : Int} : cmpT .ge (.dat (.int i)) (.dat (.int j)) = some (decide (j ≤ i)) := rfl
/-! ### lists put together -/
theorem w_addDD {α : Type} {f : α → D} {xs ys : List α} (h : xs.length + ys.length ≤ 1000000) : binD .add (DE f xs) (DE f ys) = some (LE f (xs ++ ys)) := by
  simp [binD, DE, LE, h, Function.comp_def]
theorem w_addTT {α : Type} {f : α → D} {xs ys : List α} (h : xs.length + ys.length ≤ 1000000) : binD .add (TE f xs) (TE f ys) = some (.dat (TE f (xs ++ ys))) := by
  simp [binD, TE, h]
theorem rep1 {d : D} {k : Int} (h : 0 ≤ k) (h' : k ≤ 1000000) : binD .mul (.list [d]) (.int k) = some (LE (fun x : D => x) (List.replicate k.toNat d)) := by
  have : decide (-(2 ^ 62) ≤ k) && decide (k < 2 ^ 62) && decide (1 * k.toNat ≤ lineN) := by simp; omega
  simp only [binD, List.length_singleton, this, if_true, LE]
  congr 3
  simp
theorem LE_rep {α : Type} {f : α → D} {a : α} {n : Nat} : LE (fun x : D => x) (List.replicate n (f a)) = LE f (List.replicate n a) := by simp [LE]
theorem w_rep1I {i k : Int} (h : 0 ≤ k) (h' : k ≤ 1000000) : binD .mul (.list [.int i]) (.int k) = some (LE .int (List.replicate k.toNat i)) := by
  rw [rep1 h h', LE_rep (f := PyData.int)]
/-! ### items -/
theorem ixN_nat {n k : Nat} (h : k < n) : L2.ixN n (k : Int) = some k := by
  unfold L2.ixN
  rw [if_pos (by omega), if_pos (by omega)]
  rfl
theorem ixN_pos {n : Nat} {k : Int} (h0 : 0 ≤ k) (h : k < n) : L2.ixN n k = some k.toNat := by
  unfold L2.ixN
  rw [if_pos h0, if_pos h]
theorem ixN_neg {n : Nat} {k : Int} (h0 : k < 0) (h : -(n : Int) ≤ k) : L2.ixN n k = some (k + n).toNat := by
  unfold L2.ixN
  rw [if_neg (by omega), if_pos h]
theorem item_DE {α : Type} {f : α → D} {xs : List α} {k : Int} (h0 : 0 ≤ k) (h : k < xs.length) : itemT (DE f xs |> T.dat) (.int k) = some (.dat (f (xs[k.toNat]'(by omega))), none) := by
  have : k.toNat < xs.length := by omega
  simp only [DE, itemT, atD, L2.atI, List.length_map, ixN_pos h0 h, Option.bind_some, List.getElem?_map, List.getElem?_eq_getElem this, Option.map_some]
theorem item_TE {α : Type} {f : α → D} {xs : List α} {k : Int} (h0 : 0 ≤ k) (h : k < xs.length) : itemT (TE f xs |> T.dat) (.int k) = some (.dat (f (xs[k.toNat]'(by omega))), none) := by
  have : k.toNat < xs.length := by omega
  simp only [TE, itemT, atD, L2.atI, List.length_map, ixN_pos h0 h, Option.bind_some, List.getElem?_map, List.getElem?_eq_getElem this, Option.map_some]
theorem item_DEn {α : Type} {f : α → D} {xs : List α} {k : Int} (h0 : k < 0) (h : -(xs.length : Int) ≤ k) : itemT (DE f xs |> T.dat) (.int k) = some (.dat (f (xs[(k + xs.length).toNat]'(by omega))), none) := by
  have : (k + xs.length).toNat < xs.length := by omega
  simp only [DE, itemT, atD, L2.atI, List.length_map, ixN_neg h0 h, Option.bind_some, List.getElem?_map, List.getElem?_eq_getElem this, Option.map_some]
theorem item_LE {α : Type} {f : α → D} {xs : List α} {k : Int} (h0 : 0 ≤ k) (h : k < xs.length) : itemT (LE f xs) (.int k) = some (.dat (f (xs[k.toNat]'(by omega))), none) := by
  have : k.toNat < xs.length := by omega
  simp only [LE, itemT, ixO, List.length_map, ixN_pos h0 h, Option.bind_some, List.getElem?_map, List.getElem?_eq_getElem this, Option.map_some]
theorem item_LEn {α : Type} {f : α → D} {xs : List α} {k : Int} (h0 : k < 0) (h : -(xs.length : Int) ≤ k) : itemT (LE f xs) (.int k) = some (.dat (f (xs[(k + xs.length).toNat]'(by omega))), none) := by
  have : (k + xs.length).toNat < xs.length := by omega
  simp only [LE, itemT, ixO, List.length_map, ixN_neg h0 h, Option.bind_some, List.getElem?_map, List.getElem?_eq_getElem this, Option.map_some]
theorem w_item_l0 {d : D} {ds : List D} : itemT (.dat (.list (d :: ds))) (.int 0) = some (.dat d, none) := by
  simp [itemT, atD, L2.atI, L2.ixN]
theorem w_item_t {ds : List D} {k : Int} : itemT (.dat (.tuple ds)) (.int k) = (atD ds k).map fun d => (.dat d, none) := rfl
theorem w_item_l {ds : List D} {k : Int} : itemT (.dat (.list ds)) (.int k) = (atD ds k).map fun d => (.dat d, none) := rfl
theorem w_at_0 {α : Type} {a : α} {xs : List α} : atD (a :: xs) 0 = some a := by
  simp [atD, L2.atI, L2.ixN]
theorem w_at_1 {α : Type} {a b : α} {xs : List α} : atD (a :: b :: xs) 1 = some b := by
  have : L2.ixN (a :: b :: xs).length 1 = some 1 := ixN_nat (k := 1) (by simp)
  simp only [atD, L2.atI, this, Option.bind_some, List.getElem?_cons_zero, List.getElem?_cons_succ]
theorem w_at_2 {α : Type} {a b c : α} {xs : List α} : atD (a :: b :: c :: xs) 2 = some c := by
  have : L2.ixN (a :: b :: c :: xs).length 2 = some 2 := ixN_nat (k := 2) (by simp)
  simp only [atD, L2.atI, this, Option.bind_some, List.getElem?_cons_zero, List.getElem?_cons_succ]
theorem w_item_lst0 {d : D} {ts : List T} : itemT (.lst (.dat d :: ts)) (.int 0) = some (.dat d, none) := by
  have : ixO (T.dat d :: ts).length 0 = some 0 := ixN_nat (k := 0) (by simp)
  simp only [itemT, this, Option.bind_some, List.getElem?_cons_zero, List.getElem?_cons_succ]
theorem w_item_lst1 {t0 : T} {d : D} {ts : List T} : itemT (.lst (t0 :: .dat d :: ts)) (.int 1) = some (.dat d, none) := by
  have : ixO (t0 :: T.dat d :: ts).length 1 = some 1 := ixN_nat (k := 1) (by simp)
  simp only [itemT, this, Option.bind_some, List.getElem?_cons_zero, List.getElem?_cons_succ]
theorem w_item_lst2 {t0 t1 : T} {d : D} {ts : List T} : itemT (.lst (t0 :: t1 :: .dat d :: ts)) (.int 2) = some (.dat d, none) := by
  have : ixO (t0 :: t1 :: T.dat d :: ts).length 2 = some 2 := ixN_nat (k := 2) (by simp)
  simp only [itemT, this, Option.bind_some, List.getElem?_cons_zero, List.getElem?_cons_succ]
theorem w_item_lst3 {t0 t1 t2 : T} {d : D} {ts : List T} : itemT (.lst (t0 :: t1 :: t2 :: .dat d :: ts)) (.int 3) = some (.dat d, none) := by
  have : ixO (t0 :: t1 :: t2 :: T.dat d :: ts).length 3 = some 3 := ixN_nat (k := 3) (by simp)
  simp only [itemT, this, Option.bind_some, List.getElem?_cons_zero, List.getElem?_cons_succ]
theorem w_item_lst4 {t0 t1 t2 t3 : T} {d : D} {ts : List T} : itemT (.lst (t0 :: t1 :: t2 :: t3 :: .dat d :: ts)) (.int 4) = some (.dat d, none) := by
  have : ixO (t0 :: t1 :: t2 :: t3 :: T.dat d :: ts).length 4 = some 4 := ixN_nat (k := 4) (by simp)
  simp only [itemT, this, Option.bind_some, List.getElem?_cons_zero, List.getElem?_cons_succ]
/-! along a path -/
theorem w_getP_nil {t : T} : getP t [] = some t := by cases t <;> rfl
theorem getP_LE {α : Type} {f : α → D} {xs : List α} {k : Int} {ks : List Int} (h0 : 0 ≤ k) (h : k < xs.length) : getP (LE f xs) (k :: ks) = getP (.dat (f (xs[k.toNat]'(by omega)))) ks := by
  have : k.toNat < xs.length := by omega
  simp only [LE, getP, ixO, List.length_map, ixN_pos h0 h, Option.bind_some, List.getElem?_map, List.getElem?_eq_getElem this, Option.map_some]
theorem getP_LL {α : Type} {f : α → T} {xs : List α} {k : Int} {ks : List Int} (h0 : 0 ≤ k) (h : k < xs.length) : getP (LL f xs) (k :: ks) = getP (f (xs[k.toNat]'(by omega))) ks := by
  have : k.toNat < xs.length := by omega
  simp only [LL, getP, ixO, List.length_map, ixN_pos h0 h, Option.bind_some, List.getElem?_map, List.getElem?_eq_getElem this, Option.map_some]
theorem getP_DE {α : Type} {f : α → D} {xs : List α} {k : Int} {ks : List Int} (h0 : 0 ≤ k) (h : k < xs.length) : getP (.dat (DE f xs)) (k :: ks) = getP (.dat (f (xs[k.toNat]'(by omega)))) ks := by
  have : k.toNat < xs.length := by omega
  simp only [DE, getP, ixO, List.length_map, ixN_pos h0 h, Option.bind_some, List.getElem?_map, List.getElem?_eq_getElem this, Option.map_some]
theorem getP_TE {α : Type} {f : α → D} {xs : List α} {k : Int} {ks : List Int} (h0 : 0 ≤ k) (h : k < xs.length) : getP (.dat (TE f xs)) (k :: ks) = getP (.dat (f (xs[k.toNat]'(by omega)))) ks := by
  have : k.toNat < xs.length := by omega
  simp only [TE, getP, ixO, List.length_map, ixN_pos h0 h, Option.bind_some, List.getElem?_map, List.getElem?_eq_getElem this, Option.map_some]
theorem w_getP_lst0 {t : T} {ts : List T} {ks : List Int} : getP (.lst (t :: ts)) (0 :: ks) = getP t ks := by
  have : ixO (t :: ts).length 0 = some 0 := ixN_nat (k := 0) (by simp)
  simp only [getP, this, Option.bind_some, List.getElem?_cons_zero, List.getElem?_cons_succ]
theorem w_getP_lst1 {t u : T} {ts : List T} {ks : List Int} : getP (.lst (t :: u :: ts)) (1 :: ks) = getP u ks := by
  have : ixO (t :: u :: ts).length 1 = some 1 := ixN_nat (k := 1) (by simp)
  simp only [getP, this, Option.bind_some, List.getElem?_cons_zero, List.getElem?_cons_succ]
theorem w_getP_lst2 {t u v : T} {ts : List T} {ks : List Int} : getP (.lst (t :: u :: v :: ts)) (2 :: ks) = getP v ks := by
  have : ixO (t :: u :: v :: ts).length 2 = some 2 := ixN_nat (k := 2) (by simp)
  simp only [getP, this, Option.bind_some, List.getElem?_cons_zero, List.getElem?_cons_succ]
theorem w_getP_tup0 {t : D} {ts : List D} {ks : List Int} : getP (.dat (.tuple (t :: ts))) (0 :: ks) = getP (.dat t) ks := by
  have : ixO (t :: ts).length 0 = some 0 := ixN_nat (k := 0) (by simp)
  simp only [getP, this, Option.bind_some, List.getElem?_cons_zero, List.getElem?_cons_succ]
theorem w_getP_tup1 {t u : D} {ts : List D} {ks : List Int} : getP (.dat (.tuple (t :: u :: ts))) (1 :: ks) = getP (.dat u) ks := by
  have : ixO (t :: u :: ts).length 1 = some 1 := ixN_nat (k := 1) (by simp)
  simp only [getP, this, Option.bind_some, List.getElem?_cons_zero, List.getElem?_cons_succ]
theorem w_gp2_0 {α β : Type} {f : α → D} {g : β → D} {p : α × β} {ks : List Int} : getP (.dat (p2 f g p)) (0 :: ks) = getP (.dat (f p.1)) ks := by rw [p2, w_getP_tup0]
theorem w_gp2_1 {α β : Type} {f : α → D} {g : β → D} {p : α × β} {ks : List Int} : getP (.dat (p2 f g p)) (1 :: ks) = getP (.dat (g p.2)) ks := by rw [p2, w_getP_tup1]
theorem w_ip2_0 {α β : Type} {f : α → D} {g : β → D} {p : α × β} : itemT (.dat (p2 f g p)) (.int 0) = some (.dat (f p.1), none) := by rw [p2, w_item_t, w_at_0]; rfl
theorem w_ip2_1 {α β : Type} {f : α → D} {g : β → D} {p : α × β} : itemT (.dat (p2 f g p)) (.int 1) = some (.dat (g p.2), none) := by rw [p2, w_item_t, w_at_1]; rfl
theorem w_setP_nil {t u : T} : setP t [] u = some u := by cases t <;> rfl
theorem setP_LL {α : Type} {f : α → T} {xs : List α} {k : Int} {ks : List Int} {u : T} (h0 : 0 ≤ k) (h : k < xs.length) : setP (LL f xs) (k :: ks) u = (setP (f (xs[k.toNat]'(by omega))) ks u).map fun t' => .lst ((xs.map f).set k.toNat t') := by
  have : k.toNat < xs.length := by omega
  simp only [LL, setP, ixO, List.length_map, ixN_pos h0 h, Option.bind_some, List.getElem?_map, List.getElem?_eq_getElem this, Option.map_some]
theorem set_LL {α : Type} {f : α → T} {xs : List α} {k : Nat} {a : α} : (.lst ((xs.map f).set k (f a)) : T) = LL f (xs.set k a) := by simp [LL, List.map_set]
theorem w_set_LLE {α : Type} {f : α → D} {xs : List (List α)} {k : Nat} {a : List α} : (.lst ((xs.map (LE f)).set k (LE f a)) : T) = LL (LE f) (xs.set k a) := by simp [LL, List.map_set]
theorem w_setP_lst0 {t u : T} {ts : List T} {ks : List Int} : setP (.lst (t :: ts)) (0 :: ks) u = (setP t ks u).map fun t' => .lst (t' :: ts) := by
  have : ixO (t :: ts).length 0 = some 0 := ixN_nat (k := 0) (by simp)
  simp only [setP, this, Option.bind_some, List.getElem?_cons_zero, List.getElem?_cons_succ, List.set_cons_zero, List.set_cons_succ]
theorem w_setP_lst1 {t v u : T} {ts : List T} {ks : List Int} : setP (.lst (t :: v :: ts)) (1 :: ks) u = (setP v ks u).map fun t' => .lst (t :: t' :: ts) := by
  have : ixO (t :: v :: ts).length 1 = some 1 := ixN_nat (k := 1) (by simp)
  simp only [setP, this, Option.bind_some, List.getElem?_cons_zero, List.getElem?_cons_succ, List.set_cons_zero, List.set_cons_succ]
/-! stores -/
theorem w_store_LEI {xs : List Int} {k v : Int} (h0 : 0 ≤ k) (h : k < xs.length) : storeT (LE .int xs) (.int k) (.dat (.int v)) = some (LE .int (xs.set k.toNat v)) := by
  simp only [LE, storeT, ixO, List.length_map, ixN_pos h0 h, Option.map_some, List.map_set]
theorem w_store_LE {α : Type} {f : α → D} {xs : List α} {k : Int} {v : α} (h0 : 0 ≤ k) (h : k < xs.length) : storeT (LE f xs) (.int k) (.dat (f v)) = some (LE f (xs.set k.toNat v)) := by
  simp only [LE, storeT, ixO, List.length_map, ixN_pos h0 h, Option.map_some, List.map_set]
theorem w_store_lst0 {t u : T} {ts : List T} : storeT (.lst (t :: ts)) (.int 0) u = some (.lst (u :: ts)) := by
  have : ixO (t :: ts).length 0 = some 0 := ixN_nat (k := 0) (by simp)
  simp only [storeT, this, Option.map_some, List.set_cons_zero, List.set_cons_succ]
theorem w_store_lst1 {t v u : T} {ts : List T} : storeT (.lst (t :: v :: ts)) (.int 1) u = some (.lst (t :: u :: ts)) := by
  have : ixO (t :: v :: ts).length 1 = some 1 := ixN_nat (k := 1) (by simp)
  simp only [storeT, this, Option.map_some, List.set_cons_zero, List.set_cons_succ]
theorem w_store_lst2 {t v w u : T} {ts : List T} : storeT (.lst (t :: v :: w :: ts)) (.int 2) u = some (.lst (t :: v :: u :: ts)) := by
  have : ixO (t :: v :: w :: ts).length 2 = some 2 := ixN_nat (k := 2) (by simp)
  simp only [storeT, this, Option.map_some, List.set_cons_zero, List.set_cons_succ]
/-! by type, with a default -/
theorem w_item_DEl {β : Type} {f : List β → D} {xs : List (List β)} {k : Int} (h0 : 0 ≤ k) (h : k < xs.length) : itemT (.dat (DE f xs)) (.int k) = some (.dat (f (xs.getD k.toNat [])), none) := by
  rw [item_DE h0 h]; simp only [List.getD_eq_getElem?_getD, List.getElem?_eq_getElem (show k.toNat < xs.length by omega), Option.getD_some]
theorem w_getP_DEl {β : Type} {f : List β → D} {xs : List (List β)} {k : Int} {ks : List Int} (h0 : 0 ≤ k) (h : k < xs.length) : getP (.dat (DE f xs)) (k :: ks) = getP (.dat (f (xs.getD k.toNat []))) ks := by
  rw [getP_DE h0 h]; simp only [List.getD_eq_getElem?_getD, List.getElem?_eq_getElem (show k.toNat < xs.length by omega), Option.getD_some]
theorem w_item_TEl {β : Type} {f : List β → D} {xs : List (List β)} {k : Int} (h0 : 0 ≤ k) (h : k < xs.length) : itemT (.dat (TE f xs)) (.int k) = some (.dat (f (xs.getD k.toNat [])), none) := by
  rw [item_TE h0 h]; simp only [List.getD_eq_getElem?_getD, List.getElem?_eq_getElem (show k.toNat < xs.length by omega), Option.getD_some]
theorem w_getP_TEl {β : Type} {f : List β → D} {xs : List (List β)} {k : Int} {ks : List Int} (h0 : 0 ≤ k) (h : k < xs.length) : getP (.dat (TE f xs)) (k :: ks) = getP (.dat (f (xs.getD k.toNat []))) ks := by
  rw [getP_TE h0 h]; simp only [List.getD_eq_getElem?_getD, List.getElem?_eq_getElem (show k.toNat < xs.length by omega), Option.getD_some]
theorem w_item_LEl {β : Type} {f : List β → D} {xs : List (List β)} {k : Int} (h0 : 0 ≤ k) (h : k < xs.length) : itemT (LE f xs) (.int k) = some (.dat (f (xs.getD k.toNat [])), none) := by
  rw [item_LE h0 h]; simp only [List.getD_eq_getElem?_getD, List.getElem?_eq_getElem (show k.toNat < xs.length by omega), Option.getD_some]
theorem w_getP_LEl {β : Type} {f : List β → D} {xs : List (List β)} {k : Int} {ks : List Int} (h0 : 0 ≤ k) (h : k < xs.length) : getP (LE f xs) (k :: ks) = getP (.dat (f (xs.getD k.toNat []))) ks := by
  rw [getP_LE h0 h]; simp only [List.getD_eq_getElem?_getD, List.getElem?_eq_getElem (show k.toNat < xs.length by omega), Option.getD_some]
theorem w_itemN_DEl {β : Type} {f : List β → D} {xs : List (List β)} {k : Int} (h0 : k < 0) (h : -(xs.length : Int) ≤ k) : itemT (.dat (DE f xs)) (.int k) = some (.dat (f (xs.getD (k + xs.length).toNat [])), none) := by
  rw [item_DEn h0 h]; simp only [List.getD_eq_getElem?_getD, List.getElem?_eq_getElem (show (k + xs.length).toNat < xs.length by omega), Option.getD_some]
theorem w_itemN_LEl {β : Type} {f : List β → D} {xs : List (List β)} {k : Int} (h0 : k < 0) (h : -(xs.length : Int) ≤ k) : itemT (LE f xs) (.int k) = some (.dat (f (xs.getD (k + xs.length).toNat [])), none) := by
  rw [item_LEn h0 h]; simp only [List.getD_eq_getElem?_getD, List.getElem?_eq_getElem (show (k + xs.length).toNat < xs.length by omega), Option.getD_some]
theorem w_item_DEi {f : Int → D} {xs : List Int} {k : Int} (h0 : 0 ≤ k) (h : k < xs.length) : itemT (.dat (DE f xs)) (.int k) = some (.dat (f (xs.getD k.toNat 0)), none) := by
  rw [item_DE h0 h]; simp only [List.getD_eq_getElem?_getD, List.getElem?_eq_getElem (show k.toNat < xs.length by omega), Option.getD_some]
theorem w_getP_DEi {f : Int → D} {xs : List Int} {k : Int} {ks : List Int} (h0 : 0 ≤ k) (h : k < xs.length) : getP (.dat (DE f xs)) (k :: ks) = getP (.dat (f (xs.getD k.toNat 0))) ks := by
  rw [getP_DE h0 h]; simp only [List.getD_eq_getElem?_getD, List.getElem?_eq_getElem (show k.toNat < xs.length by omega), Option.getD_some]
theorem w_item_TEi {f : Int → D} {xs : List Int} {k : Int} (h0 : 0 ≤ k) (h : k < xs.length) : itemT (.dat (TE f xs)) (.int k) = some (.dat (f (xs.getD k.toNat 0)), none) := by
  rw [item_TE h0 h]; simp only [List.getD_eq_getElem?_getD, List.getElem?_eq_getElem (show k.toNat < xs.length by omega), Option.getD_some]
theorem w_getP_TEi {f : Int → D} {xs : List Int} {k : Int} {ks : List Int} (h0 : 0 ≤ k) (h : k < xs.length) : getP (.dat (TE f xs)) (k :: ks) = getP (.dat (f (xs.getD k.toNat 0))) ks := by
  rw [getP_TE h0 h]; simp only [List.getD_eq_getElem?_getD, List.getElem?_eq_getElem (show k.toNat < xs.length by omega), Option.getD_some]
theorem w_item_LEi {f : Int → D} {xs : List Int} {k : Int} (h0 : 0 ≤ k) (h : k < xs.length) : itemT (LE f xs) (.int k) = some (.dat (f (xs.getD k.toNat 0)), none) := by
  rw [item_LE h0 h]; simp only [List.getD_eq_getElem?_getD, List.getElem?_eq_getElem (show k.toNat < xs.length by omega), Option.getD_some]
theorem w_getP_LEi {f : Int → D} {xs : List Int} {k : Int} {ks : List Int} (h0 : 0 ≤ k) (h : k < xs.length) : getP (LE f xs) (k :: ks) = getP (.dat (f (xs.getD k.toNat 0))) ks := by
  rw [getP_LE h0 h]; simp only [List.getD_eq_getElem?_getD, List.getElem?_eq_getElem (show k.toNat < xs.length by omega), Option.getD_some]
theorem w_itemN_DEi {f : Int → D} {xs : List Int} {k : Int} (h0 : k < 0) (h : -(xs.length : Int) ≤ k) : itemT (.dat (DE f xs)) (.int k) = some (.dat (f (xs.getD (k + xs.length).toNat 0)), none) := by
  rw [item_DEn h0 h]; simp only [List.getD_eq_getElem?_getD, List.getElem?_eq_getElem (show (k + xs.length).toNat < xs.length by omega), Option.getD_some]
theorem w_itemN_LEi {f : Int → D} {xs : List Int} {k : Int} (h0 : k < 0) (h : -(xs.length : Int) ≤ k) : itemT (LE f xs) (.int k) = some (.dat (f (xs.getD (k + xs.length).toNat 0)), none) := by
  rw [item_LEn h0 h]; simp only [List.getD_eq_getElem?_getD, List.getElem?_eq_getElem (show (k + xs.length).toNat < xs.length by omega), Option.getD_some]
theorem w_item_DEn {f : Nat → D} {xs : List Nat} {k : Int} (h0 : 0 ≤ k) (h : k < xs.length) : itemT (.dat (DE f xs)) (.int k) = some (.dat (f (xs.getD k.toNat 0)), none) := by
  rw [item_DE h0 h]; simp only [List.getD_eq_getElem?_getD, List.getElem?_eq_getElem (show k.toNat < xs.length by omega), Option.getD_some]
theorem w_getP_DEn {f : Nat → D} {xs : List Nat} {k : Int} {ks : List Int} (h0 : 0 ≤ k) (h : k < xs.length) : getP (.dat (DE f xs)) (k :: ks) = getP (.dat (f (xs.getD k.toNat 0))) ks := by
  rw [getP_DE h0 h]; simp only [List.getD_eq_getElem?_getD, List.getElem?_eq_getElem (show k.toNat < xs.length by omega), Option.getD_some]
theorem w_item_TEn {f : Nat → D} {xs : List Nat} {k : Int} (h0 : 0 ≤ k) (h : k < xs.length) : itemT (.dat (TE f xs)) (.int k) = some (.dat (f (xs.getD k.toNat 0)), none) := by
  rw [item_TE h0 h]; simp only [List.getD_eq_getElem?_getD, List.getElem?_eq_getElem (show k.toNat < xs.length by omega), Option.getD_some]
theorem w_getP_TEn {f : Nat → D} {xs : List Nat} {k : Int} {ks : List Int} (h0 : 0 ≤ k) (h : k < xs.length) : getP (.dat (TE f xs)) (k :: ks) = getP (.dat (f (xs.getD k.toNat 0))) ks := by
  rw [getP_TE h0 h]; simp only [List.getD_eq_getElem?_getD, List.getElem?_eq_getElem (show k.toNat < xs.length by omega), Option.getD_some]
theorem w_item_LEn {f : Nat → D} {xs : List Nat} {k : Int} (h0 : 0 ≤ k) (h : k < xs.length) : itemT (LE f xs) (.int k) = some (.dat (f (xs.getD k.toNat 0)), none) := by
  rw [item_LE h0 h]; simp only [List.getD_eq_getElem?_getD, List.getElem?_eq_getElem (show k.toNat < xs.length by omega), Option.getD_some]
theorem w_getP_LEn {f : Nat → D} {xs : List Nat} {k : Int} {ks : List Int} (h0 : 0 ≤ k) (h : k < xs.length) : getP (LE f xs) (k :: ks) = getP (.dat (f (xs.getD k.toNat 0))) ks := by
  rw [getP_LE h0 h]; simp only [List.getD_eq_getElem?_getD, List.getElem?_eq_getElem (show k.toNat < xs.length by omega), Option.getD_some]
theorem w_itemN_DEn {f : Nat → D} {xs : List Nat} {k : Int} (h0 : k < 0) (h : -(xs.length : Int) ≤ k) : itemT (.dat (DE f xs)) (.int k) = some (.dat (f (xs.getD (k + xs.length).toNat 0)), none) := by
  rw [item_DEn h0 h]; simp only [List.getD_eq_getElem?_getD, List.getElem?_eq_getElem (show (k + xs.length).toNat < xs.length by omega), Option.getD_some]
theorem w_itemN_LEn {f : Nat → D} {xs : List Nat} {k : Int} (h0 : k < 0) (h : -(xs.length : Int) ≤ k) : itemT (LE f xs) (.int k) = some (.dat (f (xs.getD (k + xs.length).toNat 0)), none) := by
  rw [item_LEn h0 h]; simp only [List.getD_eq_getElem?_getD, List.getElem?_eq_getElem (show (k + xs.length).toNat < xs.length by omega), Option.getD_some]
theorem w_item_DEb {f : Bool → D} {xs : List Bool} {k : Int} (h0 : 0 ≤ k) (h : k < xs.length) : itemT (.dat (DE f xs)) (.int k) = some (.dat (f (xs.getD k.toNat false)), none) := by
  rw [item_DE h0 h]; simp only [List.getD_eq_getElem?_getD, List.getElem?_eq_getElem (show k.toNat < xs.length by omega), Option.getD_some]
theorem w_getP_DEb {f : Bool → D} {xs : List Bool} {k : Int} {ks : List Int} (h0 : 0 ≤ k) (h : k < xs.length) : getP (.dat (DE f xs)) (k :: ks) = getP (.dat (f (xs.getD k.toNat false))) ks := by
  rw [getP_DE h0 h]; simp only [List.getD_eq_getElem?_getD, List.getElem?_eq_getElem (show k.toNat < xs.length by omega), Option.getD_some]
theorem w_item_TEb {f : Bool → D} {xs : List Bool} {k : Int} (h0 : 0 ≤ k) (h : k < xs.length) : itemT (.dat (TE f xs)) (.int k) = some (.dat (f (xs.getD k.toNat false)), none) := by
  rw [item_TE h0 h]; simp only [List.getD_eq_getElem?_getD, List.getElem?_eq_getElem (show k.toNat < xs.length by omega), Option.getD_some]
theorem w_getP_TEb {f : Bool → D} {xs : List Bool} {k : Int} {ks : List Int} (h0 : 0 ≤ k) (h : k < xs.length) : getP (.dat (TE f xs)) (k :: ks) = getP (.dat (f (xs.getD k.toNat false))) ks := by
  rw [getP_TE h0 h]; simp only [List.getD_eq_getElem?_getD, List.getElem?_eq_getElem (show k.toNat < xs.length by omega), Option.getD_some]
theorem w_item_LEb {f : Bool → D} {xs : List Bool} {k : Int} (h0 : 0 ≤ k) (h : k < xs.length) : itemT (LE f xs) (.int k) = some (.dat (f (xs.getD k.toNat false)), none) := by
  rw [item_LE h0 h]; simp only [List.getD_eq_getElem?_getD, List.getElem?_eq_getElem (show k.toNat < xs.length by omega), Option.getD_some]
theorem w_getP_LEb {f : Bool → D} {xs : List Bool} {k : Int} {ks : List Int} (h0 : 0 ≤ k) (h : k < xs.length) : getP (LE f xs) (k :: ks) = getP (.dat (f (xs.getD k.toNat false))) ks := by
  rw [getP_LE h0 h]; simp only [List.getD_eq_getElem?_getD, List.getElem?_eq_getElem (show k.toNat < xs.length by omega), Option.getD_some]
theorem w_itemN_DEb {f : Bool → D} {xs : List Bool} {k : Int} (h0 : k < 0) (h : -(xs.length : Int) ≤ k) : itemT (.dat (DE f xs)) (.int k) = some (.dat (f (xs.getD (k + xs.length).toNat false)), none) := by
  rw [item_DEn h0 h]; simp only [List.getD_eq_getElem?_getD, List.getElem?_eq_getElem (show (k + xs.length).toNat < xs.length by omega), Option.getD_some]
theorem w_itemN_LEb {f : Bool → D} {xs : List Bool} {k : Int} (h0 : k < 0) (h : -(xs.length : Int) ≤ k) : itemT (LE f xs) (.int k) = some (.dat (f (xs.getD (k + xs.length).toNat false)), none) := by
  rw [item_LEn h0 h]; simp only [List.getD_eq_getElem?_getD, List.getElem?_eq_getElem (show (k + xs.length).toNat < xs.length by omega), Option.getD_some]
theorem w_getP_LLl {β : Type} {f : List β → T} {xs : List (List β)} {k : Int} {ks : List Int} (h0 : 0 ≤ k) (h : k < xs.length) : getP (LL f xs) (k :: ks) = getP (f (xs.getD k.toNat [])) ks := by
  rw [getP_LL h0 h]; simp only [List.getD_eq_getElem?_getD, List.getElem?_eq_getElem (show k.toNat < xs.length by omega), Option.getD_some]
theorem w_setP_LLl {β : Type} {f : β → D} {xs : List (List β)} {k : Int} {ks : List Int} {u : T} (h0 : 0 ≤ k) (h : k < xs.length) : setP (LL (LE f) xs) (k :: ks) u = (setP (LE f (xs.getD k.toNat [])) ks u).map fun t' => .lst ((xs.map (LE f)).set k.toNat t') := by
  rw [setP_LL h0 h]; simp only [List.getD_eq_getElem?_getD, List.getElem?_eq_getElem (show k.toNat < xs.length by omega), Option.getD_some]
theorem w_store_LEN {xs : List Nat} {k : Int} {v : Nat} (h0 : 0 ≤ k) (h : k < xs.length) : storeT (LE dN xs) (.int k) (.dat (.int (v : Int))) = some (LE dN (xs.set k.toNat v)) := by
  simp only [LE, storeT, ixO, List.length_map, ixN_pos h0 h, Option.map_some, List.map_set, dN]
/-! methods -/
theorem w_append_LEI {xs : List Int} {v : Int} (h : xs.length < 1000000) : meF .append (LE .int xs) [.dat (.int v)] = some (LE .int (xs ++ [v]), .dat .none) := by
  simp [LE, meF, h]
theorem w_append_LE {α : Type} {f : α → D} {xs : List α} {v : α} (h : xs.length < 1000000) : meF .append (LE f xs) [.dat (f v)] = some (LE f (xs ++ [v]), .dat .none) := by
  simp [LE, meF, h]
theorem w_append_LEN {xs : List Nat} {v : Nat} (h : xs.length < 1000000) : meF .append (LE dN xs) [.dat (.int (v : Int))] = some (LE dN (xs ++ [v]), .dat .none) := by
  simp [LE, meF, h, dN]
theorem w_dN {n : Nat} : dN n = .int (n : Int) := rfl
theorem w_append_DE {α : Type} {f : α → D} {xs : List (List α)} {v : List α} (h : xs.length < 1000000) : meF .append (LE (DE f) xs) [.dat (DE f v)] = some (LE (DE f) (xs ++ [v]), .dat .none) := by
  simp [LE, meF, h]
theorem w_append_lst {ts : List T} {u : T} (h : ts.length < 1000000) : meF .append (.lst ts) [u] = some (.lst (ts ++ [u]), .dat .none) := by
  simp [meF, h]
theorem w_pop_LE {α : Type} {f : α → D} {xs : List α} {v : α} : meF .pop (LE f (xs ++ [v])) [] = some (LE f xs, .dat (f v)) := by
  simp [LE, meF]
theorem w_extend_LE {α : Type} {f : α → D} {xs ys : List α} (h : xs.length + ys.length ≤ 1000000) : meF .extend (LE f xs) [LE f ys] = some (LE f (xs ++ ys), .dat .none) := by
  simp [LE, meF, h]
/-! len -/
theorem w_len_DE {α : Type} {f : α → D} {xs : List α} : biF .len [.dat (DE f xs)] = some (.dat (.int xs.length)) := by simp [biF, DE]
theorem w_len_TE {α : Type} {f : α → D} {xs : List α} : biF .len [.dat (TE f xs)] = some (.dat (.int xs.length)) := by simp [biF, TE]
theorem w_len_l {ds : List D} : biF .len [.dat (.list ds)] = some (.dat (.int ds.length)) := rfl
theorem w_len_t {ds : List D} : biF .len [.dat (.tuple ds)] = some (.dat (.int ds.length)) := rfl
theorem w_len_scr {ns : List Int} : biF .len [.scr ns] = some (.dat (.int ns.length)) := rfl
theorem w_len_K {b : Bool} {kvs : List (Key × D)} : biF .len [.dK b kvs] = some (.dat (.int kvs.length)) := rfl
theorem w_len_T {b : Bool} {kvs : List (List Key × D)} : biF .len [.dT b kvs] = some (.dat (.int kvs.length)) := rfl
theorem w_absI {i : Int} : biF .abs [.dat (.int i)] = some (.dat (.int i.natAbs)) := by
  simp only [biF]
  congr 3
  split <;> omega
theorem w_min2 {i j : Int} : biF .min [.dat (.int i), .dat (.int j)] = some (.dat (.int (min i j))) := by
  simp only [biF]; congr 3; omega
theorem w_max2 {i j : Int} : biF .max [.dat (.int i), .dat (.int j)] = some (.dat (.int (max i j))) := by
  simp only [biF]; congr 3; omega
theorem intsOf_map (is : List Int) : intsOf (is.map PyData.int) = some is := by
  induction is with
  | nil => rfl
  | cons i is ih => simp [intsOf, ih]
theorem boolsOf_map (is : List Bool) : boolsOf (is.map PyData.bool) = some is := by
  induction is with
  | nil => rfl
  | cons i is ih => simp [boolsOf, ih]
theorem w_sum {is : List Int} : biF .sum [.dat (DE .int is)] = some (.dat (.int is.sum)) := by simp [biF, DE, intsOf_map]
theorem w_minL {is : List Int} : biF .min [.dat (DE .int is)] = (minI is).map fun m => .dat (.int m) := by simp [biF, DE, intsOf_map]
theorem w_maxL {is : List Int} : biF .max [.dat (DE .int is)] = (maxI is).map fun m => .dat (.int m) := by simp [biF, DE, intsOf_map]
theorem w_all {bs : List Bool} : biF .all [.dat (DE .bool bs)] = some (.dat (.bool (bs.all id))) := by simp [biF, DE, boolsOf_map]
theorem w_any {bs : List Bool} : biF .any [.dat (DE .bool bs)] = some (.dat (.bool (bs.any id))) := by simp [biF, DE, boolsOf_map]
theorem w_tupleD {α : Type} {f : α → D} {xs : List α} : biF .tuple [.dat (DE f xs)] = some (.dat (TE f xs)) := rfl
theorem w_tupleT {α : Type} {f : α → D} {xs : List α} : biF .tuple [.dat (TE f xs)] = some (.dat (TE f xs)) := rfl
theorem w_listD {α : Type} {f : α → D} {xs : List α} : biF .list [.dat (DE f xs)] = some (LE f xs) := by simp [biF, DE, freshL, LE]
theorem w_listT {α : Type} {f : α → D} {xs : List α} : biF .list [.dat (TE f xs)] = some (LE f xs) := by simp [biF, TE, freshL, LE]
theorem w_revl {α : Type} {f : α → D} {xs : List α} : biF .revl [.dat (DE f xs)] = some (LE f xs.reverse) := by simp [biF, DE, freshL, LE]
theorem w_intI {i : Int} : biF .int [.dat (.int i)] = some (.dat (.int i)) := rfl
theorem w_intB {b : Bool} : biF .int [.dat (.bool b)] = some (.dat (.int (if b then 1 else 0))) := rfl
theorem w_gcd {i j : Int} : biF .gcd [.dat (.int i), .dat (.int j)] = some (.dat (.int (Nat.gcd i.natAbs j.natAbs : Nat))) := rfl
/-! none or not -/
theorem w_oE_n {α : Type} {f : α → D} : oE f none = .none := rfl
theorem w_oE_s {α : Type} {f : α → D} {a : α} : oE f (some a) = f a := rfl
theorem w_isN_int {i : Int} : isNone (.dat (.int i)) = false := rfl
theorem w_isN_non : isNone (.dat .none) = true := rfl
theorem w_isN_DE {α : Type} {f : α → D} {xs : List α} : isNone (.dat (DE f xs)) = false := rfl
theorem w_isN_TE {α : Type} {f : α → D} {xs : List α} : isNone (.dat (TE f xs)) = false := rfl
theorem w_isN_tup {ds : List D} : isNone (.dat (.tuple ds)) = false := rfl
theorem w_isN_bool {b : Bool} : isNone (.dat (.bool b)) = false := rfl
/-! == of lists -/
theorem shpAll {α : Type} {f : α → D} {m : Nat} (h : ∀ a, PyData.canLay0 (f a) = true ∧ PyData.depth (f a) ≤ m) : ∀ xs : List α, PyData.canLayAll0 (xs.map f) = true ∧ PyData.depthAll (xs.map f) ≤ m
  | [] => ⟨by simp [PyData.canLayAll0], by simp [PyData.depthAll]⟩
  | x :: xs => by
    have := shpAll h xs
    have := h x
    simp [PyData.canLayAll0, PyData.depthAll, *]
    omega
/-- how deep encoded things are -/
structure Dep (m : Nat) {α : Type} (f : α → D) : Prop where
  all : ∀ a, PyData.canLay0 (f a) = true ∧ PyData.depth (f a) ≤ m
theorem Dep.int : Dep 0 PyData.int := ⟨fun a => by simp [PyData.canLay0, PyData.depth]⟩
theorem Dep.dN : Dep 0 Eng.dN := ⟨fun a => by simp [Eng.dN, PyData.canLay0, PyData.depth]⟩
theorem Dep.bool : Dep 0 PyData.bool := ⟨fun a => by simp [PyData.canLay0, PyData.depth]⟩
theorem Dep.DE {m : Nat} {α : Type} {f : α → D} (h : Dep m f) : Dep (m + 1) (DE f) := ⟨fun xs => by
  have := shpAll h.all xs
  simp [Eng.DE, PyData.canLay0, PyData.depth, this]⟩
theorem Dep.TE {m : Nat} {α : Type} {f : α → D} (h : Dep m f) : Dep (m + 1) (TE f) := ⟨fun xs => by
  have := shpAll h.all xs
  simp [Eng.TE, PyData.canLay0, PyData.depth, this]⟩
theorem Dep.p2 {m n : Nat} {α β : Type} {f : α → D} {g : β → D} (h : Dep m f) (h' : Dep n g) : Dep (max m n + 1) (p2 f g) := ⟨fun p => by
  have := h.all p.1
  have := h'.all p.2
  simp [Eng.p2, PyData.canLay0, PyData.canLayAll0, PyData.depth, PyData.depthAll, *]
  omega⟩
theorem Dep.shp {m : Nat} {α : Type} {f : α → D} (h : Dep m f) (hm : m ≤ 64) (a : α) : shp (f a) = true := by
  have := h.all a
  simp [Eng.shp, SeqAt.shaped, this]
  omega
theorem shp_int {i : Int} : shp (.int i) = true := by simp [shp, SeqAt.shaped, PyData.canLay0, PyData.depth]
theorem eqvAll_inj {α : Type} [DecidableEq α] {f : α → D} (h : ∀ a b, PyData.eqv (f a) (f b) = decide (a = b)) : ∀ xs ys : List α, PyData.eqvAll (xs.map f) (ys.map f) = decide (xs = ys)
  | [], [] => by simp [PyData.eqvAll]
  | [], _ :: _ => by simp [PyData.eqvAll]
  | _ :: _, [] => by simp [PyData.eqvAll]
  | x :: xs, y :: ys => by simp [PyData.eqvAll, h, eqvAll_inj h xs ys]
/-- == is equality -/
structure EqE {α : Type} [DecidableEq α] (f : α → D) : Prop where
  eqv : ∀ a b, PyData.eqv (f a) (f b) = decide (a = b)
theorem EqE.int : EqE PyData.int := ⟨fun a b => by simp [PyData.eqv]; rfl⟩
theorem EqE.bool : EqE PyData.bool := ⟨fun a b => by simp [PyData.eqv]; cases a <;> cases b <;> rfl⟩
theorem EqE.dN : EqE Eng.dN := ⟨fun a b => by
  show ((a : Int) == (b : Int)) = _
  rw [Bool.eq_iff_iff, beq_iff_eq, decide_eq_true_eq]; omega⟩
theorem EqE.DE {α : Type} [DecidableEq α] {f : α → D} (h : EqE f) : EqE (DE f) := ⟨fun a b => by simp [Eng.DE, PyData.eqv, eqvAll_inj h.eqv]⟩
theorem EqE.TE {α : Type} [DecidableEq α] {f : α → D} (h : EqE f) : EqE (TE f) := ⟨fun a b => by simp [Eng.TE, PyData.eqv, eqvAll_inj h.eqv]⟩
theorem EqE.p2 {α β : Type} [DecidableEq α] [DecidableEq β] {f : α → D} {g : β → D} (h : EqE f) (h' : EqE g) : EqE (p2 f g) := ⟨fun a b => by
  simp [Eng.p2, PyData.eqv, PyData.eqvAll, h.eqv, h'.eqv, Prod.ext_iff]⟩
theorem cmp_eq {α : Type} [DecidableEq α] {f : α → D} {m : Nat} (h : EqE f) (d : Dep m f) (hm : m ≤ 64) (hI : ∀ a i, f a ≠ .int i) (a b : α) : cmpT .eq (.dat (f a)) (.dat (f b)) = some (decide (a = b)) := by
  have e : cmpT .eq (.dat (f a)) (.dat (f b)) = if shp (f a) && shp (f b) then some (PyData.eqv (f a) (f b)) else none := by
    cases h1 : f a <;> first | rfl | (exact absurd h1 (hI _ _))
  rw [e, d.shp hm, d.shp hm, h.eqv]; rfl
theorem cmp_ne {α : Type} [DecidableEq α] {f : α → D} {m : Nat} (h : EqE f) (d : Dep m f) (hm : m ≤ 64) (hI : ∀ a i, f a ≠ .int i) (a b : α) : cmpT .ne (.dat (f a)) (.dat (f b)) = some (!decide (a = b)) := by
  have e : cmpT .ne (.dat (f a)) (.dat (f b)) = if shp (f a) && shp (f b) then some (!PyData.eqv (f a) (f b)) else none := by
    cases h1 : f a <;> first | rfl | (exact absurd h1 (hI _ _))
  rw [e, d.shp hm, d.shp hm, h.eqv]; rfl
theorem w_neNil {α : Type} {f : α → D} {m : Nat} (d : Dep m f) (hm : m < 64) (xs : List α) : cmpT .ne (.dat (DE f xs)) (.dat (.list [])) = some (!xs.isEmpty) := by
  have h1 := d.DE.shp (by omega) xs
  have h2 : shp (.list []) = true := by simp [shp, SeqAt.shaped, PyData.canLay0, PyData.canLayAll0, PyData.depth, PyData.depthAll]
  unfold DE at *
  show (if _ then _ else _) = _
  rw [h1, h2]
  cases xs <;> simp [PyData.eqv, PyData.eqvAll]
theorem w_eqNil {α : Type} {f : α → D} {m : Nat} (d : Dep m f) (hm : m < 64) (xs : List α) : cmpT .eq (.dat (DE f xs)) (.dat (.list [])) = some (xs.isEmpty) := by
  have h1 := d.DE.shp (by omega) xs
  have h2 : shp (.list []) = true := by simp [shp, SeqAt.shaped, PyData.canLay0, PyData.canLayAll0, PyData.depth, PyData.depthAll]
  unfold DE at *
  show (if _ then _ else _) = _
  rw [h1, h2]
  cases xs <;> simp [PyData.eqv, PyData.eqvAll]

theorem eqvI {i j : Int} : PyData.eqv (.int i) (.int j) = decide (i = j) := by simp [PyData.eqv]; rfl
theorem allFlat {α : Type} {f : α → D} (h : ∀ a, flatD (f a) = true) (xs : List α) : (xs.map f).all flatD = true := by simp [h]
theorem anyEqI {i : Int} (F : List Int) : (F.map PyData.int).any (fun x => PyData.eqv x (.int i)) = decide (i ∈ F) := by
  induction F with
  | nil => simp
  | cons a F ih => rw [List.map_cons, List.any_cons, ih, eqvI]; simp [eq_comm, Bool.decide_or]
theorem w_inDEI {i : Int} {F : List Int} : cmpT .isin (.dat (.int i)) (.dat (DE .int F)) = some (decide (i ∈ F)) := by
  show (if flatD (.int i) && (F.map PyData.int).all flatD then some _ else none) = _
  rw [allFlat (fun _ => rfl), anyEqI]; rfl
theorem w_inTEI {i : Int} {F : List Int} : cmpT .isin (.dat (.int i)) (.dat (TE .int F)) = some (decide (i ∈ F)) := by
  show (if flatD (.int i) && (F.map PyData.int).all flatD then some _ else none) = _
  rw [allFlat (fun _ => rfl), anyEqI]; rfl
theorem w_ninDEI {i : Int} {F : List Int} : cmpT .notin (.dat (.int i)) (.dat (DE .int F)) = some (!decide (i ∈ F)) := by
  show (if flatD (.int i) && (F.map PyData.int).all flatD then some _ else none) = _
  rw [allFlat (fun _ => rfl), anyEqI]; rfl
theorem w_ninTEI {i : Int} {F : List Int} : cmpT .notin (.dat (.int i)) (.dat (TE .int F)) = some (!decide (i ∈ F)) := by
  show (if flatD (.int i) && (F.map PyData.int).all flatD then some _ else none) = _
  rw [allFlat (fun _ => rfl), anyEqI]; rfl
theorem Ki2_dat {s : S} {k : Bool} {x y : D} : Ki2 k (some (.dat x, s)) (some (.dat y, s)) = some (.dat (if k then x else y), s) := by cases k <;> rfl
theorem minI_mem : ∀ {xs : List Int}, xs ≠ [] → ∃ m, minI xs = some m ∧ m ∈ xs ∧ ∀ x ∈ xs, m ≤ x
  | [x], _ => ⟨x, rfl, by simp, by simp⟩
  | x :: y :: xs, _ => by
    obtain ⟨m, e, h1, h2⟩ := minI_mem (xs := y :: xs) (by simp)
    refine ⟨if m < x then m else x, by simp [minI, e], ?_, fun z hz => ?_⟩
    · split
      · exact List.mem_cons_of_mem _ h1
      · exact List.mem_cons_self ..
    · rcases List.mem_cons.mp hz with rfl | hz
      · split <;> omega
      · have := h2 z hz
        split <;> omega
theorem maxI_mem : ∀ {xs : List Int}, xs ≠ [] → ∃ m, maxI xs = some m ∧ m ∈ xs ∧ ∀ x ∈ xs, x ≤ m
  | [x], _ => ⟨x, rfl, by simp, by simp⟩
  | x :: y :: xs, _ => by
    obtain ⟨m, e, h1, h2⟩ := maxI_mem (xs := y :: xs) (by simp)
    refine ⟨if x < m then m else x, by simp [maxI, e], ?_, fun z hz => ?_⟩
    · split
      · exact List.mem_cons_of_mem _ h1
      · exact List.mem_cons_self ..
    · rcases List.mem_cons.mp hz with rfl | hz
      · split <;> omega
      · have := h2 z hz
        split <;> omega
theorem w_toKey {i : Int} : toKey (.int i) = some (Sum.inl i) := rfl
theorem shp2 {a b : Int} : shp (.tuple [.int a, .int b]) = true := by simp [shp, SeqAt.shaped, PyData.canLay0, PyData.canLayAll0, PyData.depth, PyData.depthAll]
theorem eqv2 {a b c d : Int} : PyData.eqv (.tuple [.int a, .int b]) (.tuple [.int c, .int d]) = (decide (a = c) && decide (b = d)) := by
  show (PyData.eqv (.int a) (.int c) && (PyData.eqv (.int b) (.int d) && true)) = _
  rw [eqvI, eqvI, Bool.and_true]
theorem w_eq2 {a b c d : Int} : cmpT .eq (.dat (.tuple [.int a, .int b])) (.dat (.tuple [.int c, .int d])) = some (decide (a = c) && decide (b = d)) := by
  show (if shp (.tuple [.int a, .int b]) && shp (.tuple [.int c, .int d]) then some (PyData.eqv (.tuple [.int a, .int b]) (.tuple [.int c, .int d])) else none) = _
  rw [shp2, shp2, eqv2]; rfl
theorem w_ne2 {a b c d : Int} : cmpT .ne (.dat (.tuple [.int a, .int b])) (.dat (.tuple [.int c, .int d])) = some (!(decide (a = c) && decide (b = d))) := by
  show (if shp (.tuple [.int a, .int b]) && shp (.tuple [.int c, .int d]) then some (!PyData.eqv (.tuple [.int a, .int b]) (.tuple [.int c, .int d])) else none) = _
  rw [shp2, shp2, eqv2]; rfl
theorem w_slice_scr {ns : List Int} {k : Int} (h : (ns.length : Int) ≤ k) : sliceT (.scr ns) none (some k) = some (LE .int ns) := by
  have hk : k = ((k.toNat : Nat) : Int) := by omega
  have : cutI ns none (some k) = ns := by
    unfold cutI
    rw [HT.sIx_none, hk, HT.sIx_nat, List.drop_zero]
    apply List.take_of_length_le
    omega
  simp only [sliceT, this, freshL, LE, List.map_map, Function.comp_def]
theorem w_istupT {ds : List D} : biF .istup [.dat (.tuple ds)] = some (.dat (.bool true)) := rfl
theorem w_istupE {α : Type} {f : α → D} {xs : List α} : biF .istup [.dat (TE f xs)] = some (.dat (.bool true)) := rfl
theorem w_istupI {i : Int} : biF .istup [.dat (.int i)] = some (.dat (.bool false)) := rfl
theorem w_istupN : biF .istup [.dat .none] = some (.dat (.bool false)) := rfl
theorem w_istupB {b : Bool} : biF .istup [.dat (.bool b)] = some (.dat (.bool false)) := rfl
theorem w_isintI {i : Int} : biF .isint [.dat (.int i)] = some (.dat (.bool true)) := rfl
theorem w_isintB {b : Bool} : biF .isint [.dat (.bool b)] = some (.dat (.bool true)) := rfl
theorem w_isboolI {i : Int} : biF .isbool [.dat (.int i)] = some (.dat (.bool false)) := rfl
theorem w_isboolB {b : Bool} : biF .isbool [.dat (.bool b)] = some (.dat (.bool true)) := rfl
theorem zipD_self (ds : List D) : zipD ds ds = ds.map fun d => .tuple [d, d] := by
  induction ds with
  | nil => rfl
  | cons d ds ih => rw [zipD, ih]; rfl
theorem maxI_snoc {xs : List Int} {w y : Int} (h : maxI xs = some w) : maxI (xs ++ [y]) = some (max w y) := by
  have hne : xs ≠ [] := fun e => by rw [e] at h; cases h
  obtain ⟨m, e, h1, h2⟩ := maxI_mem hne
  rw [h] at e; cases e
  obtain ⟨m, e, h3, h4⟩ := maxI_mem (xs := xs ++ [y]) (by simp)
  rw [e]
  congr 1
  have a := h4 w (by simp [h1])
  have b := h4 y (by simp)
  rcases List.mem_append.mp h3 with c | c
  · have := h2 m c; omega
  · have := List.mem_singleton.mp c; omega
/-! ### runs that are only reckoned -/
mutual
def deqD : D → D → Bool
  | .none, .none => true
  | .bool a, .bool b => a == b
  | .int a, .int b => decide (a = b)
  | .str a, .str b => decide (a = b)
  | .list a, .list b => deqDs a b
  | .tuple a, .tuple b => deqDs a b
  | _, _ => false
def deqDs : List D → List D → Bool
  | [], [] => true
  | a :: as, b :: bs => deqD a b && deqDs as bs
  | _, _ => false
end
mutual
theorem deqD_eq : ∀ {a b : D}, deqD a b = true → a = b
  | .none, b, h => by cases b <;> first | rfl | cases h
  | .bool a, b, h => by cases b <;> first | (simp [deqD] at h; rw [h]) | cases h
  | .int a, b, h => by cases b <;> first | (simp [deqD] at h; rw [h]) | cases h
  | .str a, b, h => by cases b <;> first | (simp [deqD] at h; rw [h]) | cases h
  | .list a, b, h => by cases b <;> first | (simp only [deqD] at h; rw [deqDs_eq h]) | cases h
  | .tuple a, b, h => by cases b <;> first | (simp only [deqD] at h; rw [deqDs_eq h]) | cases h
  | .dict a, b, h => by cases b <;> cases h
theorem deqDs_eq : ∀ {a b : List D}, deqDs a b = true → a = b
  | [], b, h => by cases b <;> first | rfl | cases h
  | a :: as, b, h => by
    cases b with
    | nil => cases h
    | cons b bs =>
      simp only [deqDs, Bool.and_eq_true] at h
      rw [deqD_eq h.1, deqDs_eq h.2]
end
def isNoneO : Option T → Bool
  | none => true
  | _ => false
def isRes (m : Option (T × List (Option T))) (d : D) (n : Nat) : Bool := match m with
  | some (.dat x, us) => deqD x d && decide (us.length = n) && us.all isNoneO
  | _ => false
theorem isRes_eq {m : Option (T × List (Option T))} {d : D} {n : Nat} (h : isRes m d n = true) : m = some (.dat d, List.replicate n none) := by
  unfold isRes at h
  split at h
  · rename_i x us
    simp only [Bool.and_eq_true, decide_eq_true_eq] at h
    obtain ⟨⟨h1, h2⟩, h3⟩ := h
    rw [deqD_eq h1]
    congr 2
    apply List.eq_replicate_iff.mpr
    refine ⟨h2, fun b hb => ?_⟩
    have := List.all_eq_true.mp h3 b hb
    cases b with
    | none => rfl
    | some t => cases this
  · cases h
/-- the bag of a law: cells still to come, digits, a mixed number -/
structure Bag where
  cells : List Int
  b1 : Int
  b2 : Int
structure Bag.Ok (B : Bag) : Prop where
  cells : ∀ c ∈ B.cells, 0 ≤ c
  b1 : 0 ≤ B.b1
  b2 : 0 ≤ B.b2
  b2' : B.b2 < 2147483647
def bagT (B : Bag) : T := .lst [LE .int B.cells, .dat (.int B.b1), .dat (.int B.b2)]
/-- what _law_same tells true of -/
inductive GoodD : Nat → D → Prop
  | non {k : Nat} : GoodD k .none
  | int {k : Nat} (i : Int) : GoodD k (.int i)
  | tup {k : Nat} {ds : List D} (hl : ds.length ≤ 1000000) (h : ∀ d ∈ ds, GoodD k d) : GoodD (k + 1) (.tuple ds)
/-! ### dicts with ints as keys -/
def kv {α : Type} (f : α → D) (H : List (Nat × α)) : List (Key × D) := H.map fun e => ((Sum.inl (e.1 : Int) : Key), f e.2)
def lk {α : Type} (H : List (Nat × α)) (x : Nat) : Option α := (H.find? fun e => e.1 == x).map (·.2)
theorem valD_kv {α : Type} {f : α → D} {H : List (Nat × α)} {x : Nat} : valD (kv f H) (Sum.inl (x : Int) : Key) = (lk H x).map f := by
  unfold valD kv lk
  induction H with
  | nil => rfl
  | cons e H ih =>
    rw [List.map_cons, List.find?_cons, List.find?_cons]
    have : decide ((Sum.inl (e.1 : Int) : Key) = Sum.inl (x : Int)) = (e.1 == x) := by
      rw [Bool.eq_iff_iff, decide_eq_true_eq, beq_iff_eq, Sum.inl.injEq]; omega
    simp only [this]
    cases h : (e.1 == x) with
    | true => rfl
    | false => exact ih
theorem w_inK {α : Type} {f : α → D} {b : Bool} {H : List (Nat × α)} {x : Nat} : cmpT .isin (.dat (.int (x : Int))) (.dK b (kv f H)) = some ((lk H x).isSome) := by
  show some ((valD (kv f H) (Sum.inl (x : Int) : Key)).isSome) = _
  rw [valD_kv]; simp
theorem w_ninK {α : Type} {f : α → D} {b : Bool} {H : List (Nat × α)} {x : Nat} : cmpT .notin (.dat (.int (x : Int))) (.dK b (kv f H)) = some (!(lk H x).isSome) := by
  show some (!(valD (kv f H) (Sum.inl (x : Int) : Key)).isSome) = _
  rw [valD_kv]; simp
theorem w_itemK {α : Type} {f : α → D} {b : Bool} {H : List (Nat × α)} {x : Nat} : itemT (.dK b (kv f H)) (.int (x : Int)) = (lk H x).map fun v => (.dat (f v), none) := by
  show (valD (kv f H) (Sum.inl (x : Int) : Key)).map _ = _
  rw [valD_kv]; cases lk H x <;> rfl
theorem lk_none {α : Type} {H : List (Nat × α)} {x : Nat} : lk H x = none ↔ ∀ e ∈ H, e.1 ≠ x := by
  unfold lk
  rw [Option.map_eq_none_iff, List.find?_eq_none]
  simp
theorem lk_mem {α : Type} {H : List (Nat × α)} {x : Nat} {v : α} (h : lk H x = some v) : (x, v) ∈ H := by
  unfold lk at h
  obtain ⟨e, h1, h2⟩ := Option.map_eq_some_iff.mp h
  have := List.find?_some h1
  have h3 := List.mem_of_find?_eq_some h1
  have : e.1 = x := by simpa using this
  subst this; subst h2; exact h3
theorem lk_app {α : Type} {H : List (Nat × α)} {x y : Nat} {v : α} : lk (H ++ [(y, v)]) x = (lk H x).or (if y = x then some v else none) := by
  unfold lk
  rw [List.find?_append]
  cases h : H.find? fun e => e.1 == x with
  | some e => simp
  | none =>
    by_cases e : y = x
    · subst e; simp
    · have : (y == x) = false := by simpa using e
      simp [this, e]
theorem putD_new {α : Type} {f : α → D} {H : List (Nat × α)} {x : Nat} {v : α} (h : lk H x = none) : putD (kv f H) (Sum.inl (x : Int) : Key) (f v) = kv f (H ++ [(x, v)]) := by
  unfold putD
  have : (kv f H).any (fun kv => decide (kv.1 = (Sum.inl (x : Int) : Key))) = false := by
    rw [List.any_eq_false]
    intro e he
    unfold kv at he
    obtain ⟨e', h1, rfl⟩ := List.mem_map.mp he
    have := lk_none.mp h e' h1
    simp only [decide_eq_true_eq, Sum.inl.injEq]
    omega
  rw [this]
  simp [kv]
theorem storeK_new {α : Type} {f : α → D} {H : List (Nat × α)} {x : Nat} {v : α} (h : lk H x = none) (hl : H.length < 1000000) : storeT (.dK false (kv f H)) (.int (x : Int)) (.dat (f v)) = some (.dK false (kv f (H ++ [(x, v)]))) := by
  show (if (kv f H).length < lineN then some (T.dK false (putD (kv f H) (Sum.inl (x : Int) : Key) (f v))) else none) = _
  rw [if_pos (by simpa [kv] using hl), putD_new h]
/-! ### loops -/
section
variable {C : Nat → List T → Option (T × List (Option T))} {refs : Nat → List Bool} {s : S} {W : Nat}
/-- how a turn ends -/
def StepQ (I : S → Prop) (Q : R → Prop) : R → Prop
  | .nx s => I s
  | .ct s => I s
  | .bk s => Q (.nx s)
  | .rt t s => Q (.rt t s)
theorem forL_go {asg : D → S → Option S} {body : S → Option R} {Q : R → Prop} : ∀ {ds : List D} {s : S} (I : List D → S → Prop), I ds s → (∀ d rest s, I (d :: rest) s → Go (asg d s) fun s => Go (body s) (StepQ (I rest) Q)) → (∀ s, I [] s → Q (.nx s)) → Go (forL asg body ds s) Q
  | [], s, I, h0, _, hq => ⟨_, rfl, hq s h0⟩
  | d :: ds, s, I, h0, hs, hq => by
    obtain ⟨s1, e1, r, e2, h2⟩ := hs d ds s h0
    unfold forL
    rw [e1, Option.bind_some, e2]
    cases r with
    | nx s2 => exact forL_go I h2 hs hq
    | ct s2 => exact forL_go I h2 hs hq
    | bk s2 => exact ⟨_, rfl, h2⟩
    | rt t s2 => exact ⟨_, rfl, h2⟩
/-- by what is still to come -/
theorem for_go {β : Type} {enc : β → D} {t : Tg} {body : Cmds} {Q : R → Prop} {xs : List β} (I : List β → S → Prop) (h0 : I xs s) (hs : ∀ x rest s, I (x :: rest) s → Go (assT C refs t (.dat (enc x)) s) fun s => Go (execSs C refs W body s) (StepQ (I rest) Q)) (hq : ∀ s, I [] s → Q (.nx s)) : Go (forR C refs W t body (xs.map enc) s) Q := by
  refine forL_go (fun ds s => ∃ ys, ds = ys.map enc ∧ I ys s) ⟨xs, rfl, h0⟩ ?_ ?_
  · rintro d rest s ⟨ys, e, h⟩
    cases ys with
    | nil => cases e
    | cons y ys =>
      cases e
      exact (hs y ys s h).mono fun s1 h1 => h1.mono fun r hr => by
        cases r with
        | nx s2 => exact ⟨ys, rfl, hr⟩
        | ct s2 => exact ⟨ys, rfl, hr⟩
        | bk s2 => exact hr
        | rt t s2 => exact hr
  · rintro s ⟨ys, e, h⟩
    cases ys with
    | nil => exact hq s h
    | cons y ys => cases e
/-- by what was done -/
theorem for_pre {β : Type} {enc : β → D} {t : Tg} {body : Cmds} {Q : R → Prop} {xs : List β} (I : List β → S → Prop) (h0 : I [] s) (hs : ∀ pre x rest, xs = pre ++ x :: rest → ∀ s, I pre s → Go (assT C refs t (.dat (enc x)) s) fun s => Go (execSs C refs W body s) (StepQ (I (pre ++ [x])) Q)) (hq : ∀ s, I xs s → Q (.nx s)) : Go (forR C refs W t body (xs.map enc) s) Q := by
  refine for_go (fun rest s => ∃ pre, xs = pre ++ rest ∧ I pre s) ⟨[], rfl, h0⟩ ?_ ?_
  · rintro x rest s ⟨pre, e, h⟩
    exact (hs pre x rest e s h).mono fun s1 h1 => h1.mono fun r hr => by
      cases r with
      | nx s2 => exact ⟨pre ++ [x], by simp [e], hr⟩
      | ct s2 => exact ⟨pre ++ [x], by simp [e], hr⟩
      | bk s2 => exact hr
      | rt t s2 => exact hr
  · rintro s ⟨pre, e, h⟩
    rw [List.append_nil] at e
    exact hq s (e ▸ h)
/-- by the number of the turn -/
theorem for_ix {β : Type} {enc : β → D} {t : Tg} {body : Cmds} {Q : R → Prop} {xs : List β} (I : Nat → S → Prop) (h0 : I 0 s) (hs : ∀ i (h : i < xs.length) s, I i s → Go (assT C refs t (.dat (enc xs[i])) s) fun s => Go (execSs C refs W body s) (StepQ (I (i + 1)) Q)) (hq : ∀ s, I xs.length s → Q (.nx s)) : Go (forR C refs W t body (xs.map enc) s) Q := by
  refine for_pre (fun pre s => I pre.length s) h0 ?_ ?_
  · rintro pre x rest e s h
    have := hs pre.length (by simp [e]) s h
    simpa [e] using this
  · exact hq
/-- range(n) -/
theorem for_range {n : Nat} {enc : Nat → D} {t : Tg} {body : Cmds} {Q : R → Prop} (I : Nat → S → Prop) (h0 : I 0 s) (hs : ∀ i, i < n → ∀ s, I i s → Go (assT C refs t (.dat (enc i)) s) fun s => Go (execSs C refs W body s) (StepQ (I (i + 1)) Q)) (hq : ∀ s, I n s → Q (.nx s)) : Go (forR C refs W t body ((List.range n).map enc) s) Q := by
  refine for_ix I h0 (fun i h s hI => ?_) (by simpa using hq)
  have := hs i (by simpa using h) s hI
  simpa using this
theorem whileL_go {c : S → Option (Bool × S)} {body : S → Option R} {Q : R → Prop} (I : Nat → S → Prop) : ∀ {n : Nat} {s : S} (m : Nat), m < n → I m s → (∀ m s, I m s → Go (c s) fun p => if p.1 = true then Go (body p.2) (StepQ (fun s => ∃ m', m' < m ∧ I m' s) Q) else Q (.nx p.2)) → Go (whileL c body n s) Q
  | 0, s, m, hm, _, _ => by omega
  | n + 1, s, m, hm, h0, hs => by
    obtain ⟨⟨b, s1⟩, e1, h1⟩ := hs m s h0
    unfold whileL
    rw [e1, bnd_some]
    cases b with
    | false => exact ⟨_, rfl, by simpa using h1⟩
    | true =>
      simp only [if_true] at h1 ⊢
      obtain ⟨r, e2, h2⟩ := h1
      rw [e2]
      cases r with
      | nx s2 => obtain ⟨m', hm', hi⟩ := h2; exact whileL_go I m' (by omega) hi hs
      | ct s2 => obtain ⟨m', hm', hi⟩ := h2; exact whileL_go I m' (by omega) hi hs
      | bk s2 => exact ⟨_, rfl, h2⟩
      | rt t s2 => exact ⟨_, rfl, h2⟩
theorem while_go {c : E} {body : Cmds} {Q : R → Prop} (I : Nat → S → Prop) (h0 : ∃ m, m < W ∧ I m s) (hs : ∀ m s, I m s → Go (Kb (evalE C refs c s)) fun p => if p.1 = true then Go (execSs C refs W body p.2) (StepQ (fun s => ∃ m', m' < m ∧ I m' s) Q) else Q (.nx p.2)) : Go (whileR C refs W c body s) Q := let ⟨m, hm, h0⟩ := h0; whileL_go I m hm h0 hs
/-! comprehensions -/
theorem compL_map {β : Type} {enc : β → D} {asg : D → S → Option S} {test : S → Option (Bool × S)} {elt : S → Option (T × S)} {p : β → Bool} {g : β → T} (St : S → Prop) : ∀ {xs : List β} {s : S} {acc : List T}, St s → acc.length + xs.length ≤ 1000000 → (∀ x ∈ xs, ∀ s, St s → ∃ s1, asg (enc x) s = some s1 ∧ ∃ s2, test s1 = some (p x, s2) ∧ (p x = false → St s2) ∧ (p x = true → ∃ s3, elt s2 = some (g x, s3) ∧ St s3)) → ∃ s', compL asg test elt (xs.map enc) s acc = some (acc ++ (xs.filter p).map g, s') ∧ St s'
  | [], s, acc, h0, _, _ => ⟨s, by simp [compL], h0⟩
  | x :: xs, s, acc, h0, hl, hs => by
    obtain ⟨s1, e1, s2, e2, h1, h2⟩ := hs x (List.mem_cons_self ..) s h0
    rw [List.map_cons]
    unfold compL
    rw [e1, Option.bind_some, e2, bnd_some]
    rw [List.length_cons] at hl
    cases hp : p x with
    | false =>
      obtain ⟨s', e, hS⟩ := compL_map (g := g) St (acc := acc) (h1 hp) (by omega) fun y hy => hs y (List.mem_cons_of_mem _ hy)
      exact ⟨s', by simpa [hp] using e, hS⟩
    | true =>
      obtain ⟨s3, e3, h3⟩ := h2 hp
      obtain ⟨s', e, hS⟩ := compL_map (g := g) St (acc := acc ++ [g x]) h3 (by simp; omega) fun y hy => hs y (List.mem_cons_of_mem _ hy)
      exact ⟨s', by simpa [hp, e3, show acc.length < 1000000 by omega] using e, hS⟩
/-- a comprehension whose parts change nothing -/
theorem comp_map {β : Type} {enc : β → D} {elt : E} {own : List Nat} {tg : Tg} {ifs : Es} (p : β → Bool) (g : β → T) (St : S → Prop) {xs : List β} (h0 : St s) (hl : xs.length ≤ 1000000) (hs : ∀ x ∈ xs, ∀ s, St s → ∃ s1, assT C refs tg (.dat (enc x)) (wipeS s own) = some s1 ∧ ∃ s2, evalIfs C refs ifs s1 = some (p x, s2) ∧ (p x = false → St s2) ∧ (p x = true → ∃ s3, evalE C refs elt s2 = some (g x, s3) ∧ St s3)) : ∃ s', compR C refs elt own tg ifs (xs.map enc) s = some ((xs.filter p).map g, s') ∧ St s' := by
  have := compL_map (asg := fun d s => assT C refs tg (.dat d) (wipeS s own)) (test := evalIfs C refs ifs) (elt := evalE C refs elt) (enc := enc) (p := p) (g := g) St (xs := xs) (s := s) (acc := []) h0 (by simpa using hl) hs
  simpa [compR] using this
def kO : Option T → Bool
  | none => true
  | some (.dat _) => true
  | _ => false
theorem w_own_nil : ownFree s [] = true := rfl
theorem w_own_cons {i : Nat} {is : List Nat} : ownFree s (i :: is) = (kO (getS s i) && ownFree s is) := by
  unfold ownFree
  rw [List.all_cons]
  congr 1
  unfold kO
  split <;> simp_all
theorem w_kO_n : kO none = true := rfl
theorem w_kO_d {d : D} : kO (some (.dat d)) = true := rfl
theorem w_wipe_nil : wipeS s [] = s := rfl
theorem w_wipe_cons {i : Nat} {is : List Nat} : wipeS s (i :: is) = (wipeS s is).set i none := rfl
theorem w_back_nil {s1 : S} : backS s s1 [] = s1 := rfl
theorem w_back_cons {s1 : S} {i : Nat} {is : List Nat} : backS s s1 (i :: is) = (backS s s1 is).set i (getS s i) := rfl
theorem w_and_t {b : Bool} : (true && b) = b := rfl
theorem w_and_f {b : Bool} : (false && b) = false := rfl
theorem w_or_t {b : Bool} : (true || b) = true := rfl
theorem w_and_ff {b : Bool} : (b && false) = false := Bool.and_false b
theorem w_and_tt {b : Bool} : (b && true) = b := Bool.and_true b
theorem w_or_tt {b : Bool} : (b || true) = true := Bool.or_true b
theorem w_or_ff {b : Bool} : (b || false) = b := Bool.or_false b
theorem w_or_f {b : Bool} : (false || b) = b := rfl
theorem compL_go {β : Type} {enc : β → D} {asg : D → S → Option S} {test : S → Option (Bool × S)} {elt : S → Option (T × S)} (I : List β → List T → S → Prop) (hs : ∀ x rest acc s, I (x :: rest) acc s → Go (asg (enc x) s) fun s => Go (test s) fun p => if p.1 = true then Go (elt p.2) fun q => acc.length < 1000000 ∧ I rest (acc ++ [q.1]) q.2 else I rest acc p.2) : ∀ {xs : List β} {s : S} {acc : List T}, I xs acc s → Go (compL asg test elt (xs.map enc) s acc) fun q => I [] q.1 q.2
  | [], s, acc, h => ⟨_, rfl, h⟩
  | x :: xs, s, acc, h => by
    obtain ⟨s1, e1, ⟨b, s2⟩, e2, h2⟩ := hs x xs acc s h
    rw [List.map_cons]
    unfold compL
    rw [e1, Option.bind_some, e2, bnd_some]
    cases b with
    | false => exact compL_go I hs h2
    | true =>
      obtain ⟨⟨t, s3⟩, e3, hl, h3⟩ := h2
      simp only [if_true]
      rw [e3, bnd_some, if_pos hl]
      exact compL_go I hs h3
/-- any comprehension -/
theorem comp_go {β : Type} {enc : β → D} {elt : E} {own : List Nat} {tg : Tg} {ifs : Es} {xs : List β} {Q : List T × S → Prop} (I : List β → List T → S → Prop) (h0 : I xs [] s) (hs : ∀ x rest acc s, I (x :: rest) acc s → Go (assT C refs tg (.dat (enc x)) (wipeS s own)) fun s => Go (evalIfs C refs ifs s) fun p => if p.1 = true then Go (evalE C refs elt p.2) fun q => acc.length < 1000000 ∧ I rest (acc ++ [q.1]) q.2 else I rest acc p.2) (hq : ∀ ts s, I [] ts s → Q (ts, s)) : Go (compR C refs elt own tg ifs (xs.map enc) s) Q :=
  (compL_go (asg := fun d s => assT C refs tg (.dat d) (wipeS s own)) I hs h0).mono fun q h => hq q.1 q.2 h
theorem go_asg {t : Tg} {m : RT} {Q : R → Prop} (h : Go m fun p => Go (Knx (assT C refs t p.1 p.2)) Q) : Go (Kasg C refs t m) Q := by
  obtain ⟨⟨u, s⟩, rfl, h⟩ := h
  exact h
theorem go_Kcm3 {own : List Nat} {m : Option (List T × S)} {Q : T × S → Prop} (h : Go m fun q => Q (.lst q.1, backS s (wipeS q.2 own) own)) : Go (Kcm3 own s m) Q := by
  obtain ⟨q, rfl, h⟩ := h
  exact ⟨_, rfl, h⟩
/-- a comprehension whose parts change nothing -/
theorem comp_pure {β : Type} {enc : β → D} {elt : E} {own : List Nat} {tg : Tg} {ifs : Es} (p : β → Bool) (g : β → T) {xs : List β} (hl : xs.length ≤ 1000000) (hw : wipeS (wipeS s own) own = wipeS s own) (hs : ∀ x ∈ xs, Go (assT C refs tg (.dat (enc x)) (wipeS s own)) fun s1 => wipeS s1 own = wipeS s own ∧ evalIfs C refs ifs s1 = some (p x, s1) ∧ (p x = true → evalE C refs elt s1 = some (g x, s1))) :
    Kcm3 own s (compR C refs elt own tg ifs (xs.map enc) s) = some (.lst ((xs.filter p).map g), backS s (wipeS s own) own) := by
  obtain ⟨s', e, h⟩ := comp_map (C := C) (refs := refs) (elt := elt) (own := own) (tg := tg) (ifs := ifs) (enc := enc) p g (fun s' => wipeS s' own = wipeS s own) (xs := xs) (s := s) rfl hl (fun x hx s2 h2 => by
    obtain ⟨s1, e1, h1, h3, h4⟩ := hs x hx
    exact ⟨s1, by rw [h2]; exact e1, s1, h3, fun _ => h1, fun hp => ⟨s1, h4 hp, h1⟩⟩)
  rw [e]
  show some (_, backS s (wipeS s' own) own) = _
  rw [h]
/-- .. without a test -/
theorem comp_all {β : Type} {enc : β → D} {elt : E} {own : List Nat} {tg : Tg} (g : β → T) {xs : List β} (hl : xs.length ≤ 1000000) (hw : wipeS (wipeS s own) own = wipeS s own) (hs : ∀ x ∈ xs, Go (assT C refs tg (.dat (enc x)) (wipeS s own)) fun s1 => wipeS s1 own = wipeS s own ∧ evalE C refs elt s1 = some (g x, s1)) :
    Kcm3 own s (compR C refs elt own tg .nil (xs.map enc) s) = some (.lst (xs.map g), backS s (wipeS s own) own) := by
  have := comp_pure (C := C) (refs := refs) (elt := elt) (own := own) (tg := tg) (ifs := .nil) (enc := enc) (fun _ => true) g (xs := xs) (s := s) hl hw (fun x hx => (hs x hx).mono fun s1 h => ⟨h.1, by rw [evalIfs], fun _ => h.2⟩)
  rw [this, List.filter_eq_self.mpr (fun _ _ => rfl)]
theorem lst_LE {β α : Type} {f : α → D} {g : β → α} {xs : List β} : (.lst (xs.map fun x => .dat (f (g x))) : T) = LE f (xs.map g) := by simp [LE, Function.comp_def]
theorem lst_LL {β α : Type} {f : α → T} {g : β → α} {xs : List β} : (.lst (xs.map fun x => f (g x)) : T) = LL f (xs.map g) := by simp [LL, Function.comp_def]
/-- the rest of a block -/
def Then (C : Nat → List T → Option (T × List (Option T))) (refs : Nat → List Bool) (W : Nat) (ss : Cmds) (Q : R → Prop) : R → Prop
  | .nx s => Go (execSs C refs W ss s) Q
  | r => Q r
theorem go_seq {ss : Cmds} {m : Option R} {Q : R → Prop} (h : Go m (Then C refs W ss Q)) : Go (Kseq C refs W ss m) Q := by
  obtain ⟨r, rfl, h⟩ := h
  cases r with
  | nx s => exact h
  | _ => exact ⟨_, rfl, h⟩
theorem w_Step_nx {I : S → Prop} {Q : R → Prop} {s : S} : StepQ I Q (.nx s) = I s := rfl
theorem w_Step_ct {I : S → Prop} {Q : R → Prop} {s : S} : StepQ I Q (.ct s) = I s := rfl
theorem w_Step_bk {I : S → Prop} {Q : R → Prop} {s : S} : StepQ I Q (.bk s) = Q (.nx s) := rfl
theorem w_Step_rt {I : S → Prop} {Q : R → Prop} {s : S} {t : T} : StepQ I Q (.rt t s) = Q (.rt t s) := rfl
theorem w_Then_nx {ss : Cmds} {Q : R → Prop} {s : S} : Then C refs W ss Q (.nx s) = Go (execSs C refs W ss s) Q := rfl
theorem w_Then_ct {ss : Cmds} {Q : R → Prop} {s : S} : Then C refs W ss Q (.ct s) = Q (.ct s) := rfl
theorem w_Then_bk {ss : Cmds} {Q : R → Prop} {s : S} : Then C refs W ss Q (.bk s) = Q (.bk s) := rfl
theorem w_Then_rt {ss : Cmds} {Q : R → Prop} {s : S} {t : T} : Then C refs W ss Q (.rt t s) = Q (.rt t s) := rfl
theorem w_go_some {α : Type} {a : α} {Q : α → Prop} : Go (some a) Q = Q a := propext go_some
/-- how a def ends -/
def EndQ (rs : List Bool) (Q : T × List (Option T) → Prop) : R → Prop
  | .rt t s => Q (t, finals rs s)
  | .nx s => Q (.dat .none, finals rs s)
  | _ => False
theorem w_End_rt {rs : List Bool} {Q : T × List (Option T) → Prop} {s : S} {t : T} : EndQ rs Q (.rt t s) = Q (t, finals rs s) := rfl
theorem w_End_nx {rs : List Bool} {Q : T × List (Option T) → Prop} {s : S} : EndQ rs Q (.nx s) = Q (.dat .none, finals rs s) := rfl
theorem go_run {rs : List Bool} {m : Option R} {Q : T × List (Option T) → Prop} (h : Go m (EndQ rs Q)) : Go (Krun rs m) Q := by
  obtain ⟨r, rfl, h⟩ := h
  cases r with
  | nx s => exact ⟨_, rfl, h⟩
  | rt t s => exact ⟨_, rfl, h⟩
  | _ => exact h.elim
theorem run_eq {P : Prg} {k f : Nat} {ts : List T} {d : Fn} (hd : P.fns[f]? = some d) (hl : ts.length = d.ps.length) : run P (k + 1) f ts = Krun d.refs (execSs (run P k) (refsOf P) P.W d.body (entry d.ns.length ts)) := by
  rw [run, hd, Option.bind_some, if_pos hl]
  unfold Krun
  rfl
/-- a list, owned or not -/
def Sq {α : Type} (f : α → D) (xs : List α) (t : T) : Prop := t = LE f xs ∨ t = .dat (DE f xs)
theorem Sq.own {α : Type} {f : α → D} {xs : List α} : Sq f xs (LE f xs) := .inl rfl
theorem Sq.dat {α : Type} {f : α → D} {xs : List α} : Sq f xs (.dat (DE f xs)) := .inr rfl
theorem w_ite_t {α : Sort u} {a b : α} : (if true = true then a else b) = a := rfl
theorem w_ite_f {α : Sort u} {a b : α} : (if false = true then a else b) = b := rfl
theorem w_if_T {α : Sort u} {a b : α} : (if True then a else b) = a := by simp
theorem w_if_F {α : Sort u} {a b : α} : (if False then a else b) = b := by simp
theorem w_map_c {x : D} {xs : List D} : (x :: xs).map T.dat = .dat x :: xs.map T.dat := rfl
theorem w_map_n : ([] : List D).map T.dat = [] := rfl
theorem w_nab {n : Nat} : ((n : Int)).natAbs = n := rfl
theorem w_tn0 : Int.toNat 0 = 0 := rfl
theorem w_tn1 : Int.toNat 1 = 1 := rfl
theorem w_tn2 : Int.toNat 2 = 2 := rfl
theorem w_tn3 : Int.toNat 3 = 3 := rfl
theorem w_dt : decide True = true := rfl
theorem w_df : decide False = false := rfl
theorem w_em_c {α : Type} {x : α} {xs : List α} : (x :: xs).isEmpty = false := rfl
theorem w_em_n {α : Type} : ([] : List α).isEmpty = true := rfl
theorem w_nt : (!true) = false := rfl
theorem w_nf : (!false) = true := rfl
theorem toNat_nat {n : Nat} : (n : Int).toNat = n := rfl
end
end Eng

/-! ### Bfs -/
/-! Bfs: going out step by step, in plain Lean. -/
namespace Eng
/-- one look at a tie (y, x), y of the level k -/
def bst (k : Int) (ok : Nat → Nat → Bool) (a : List Int × List Nat) (e : Nat × Nat) : List Int × List Nat :=
  if a.1.getD e.2 0 < 0 ∧ ok e.1 e.2 = true then (a.1.set e.2 (k + 1), a.2 ++ [e.2]) else a
theorem getD_set {α : Type} (l : List α) (i j : Nat) (v d : α) (h : i < l.length) : (l.set i v).getD j d = if i = j then v else l.getD j d := by
  simp only [List.getD_eq_getElem?_getD, List.getElem?_set]
  split
  · rename_i e; subst e; simp [h]
  · rfl
structure BstQ (k : Int) (ok : Nat → Nat → Bool) (F : List Int) (L : List Nat) (es : List (Nat × Nat)) (r : List Int × List Nat) : Prop where
  len : r.1.length = F.length
  old : ∀ x, 0 ≤ F.getD x 0 → r.1.getD x 0 = F.getD x 0
  new : ∀ x, F.getD x 0 < 0 → (∃ e ∈ es, e.2 = x ∧ ok e.1 x = true) → r.1.getD x 0 = k + 1
  non : ∀ x, F.getD x 0 < 0 → (¬ ∃ e ∈ es, e.2 = x ∧ ok e.1 x = true) → r.1.getD x 0 = F.getD x 0
  app : ∃ M, r.2 = L ++ M ∧ M.Nodup ∧ ∀ x, x ∈ M ↔ F.getD x 0 < 0 ∧ ∃ e ∈ es, e.2 = x ∧ ok e.1 x = true
theorem bst_fold {k : Int} (hk : 0 ≤ k + 1) {ok : Nat → Nat → Bool} : ∀ (es : List (Nat × Nat)) (F : List Int) (L : List Nat), (∀ e ∈ es, e.2 < F.length) → BstQ k ok F L es (es.foldl (bst k ok) (F, L))
  | [], F, L, _ => ⟨rfl, fun _ _ => rfl, fun _ _ h => by simp at h, fun _ _ _ => rfl, [], by simp⟩
  | e :: es, F, L, hb => by
    rw [List.foldl_cons]
    have hb' : ∀ e' ∈ es, e'.2 < F.length := fun e' h => hb e' (List.mem_cons_of_mem _ h)
    have he : e.2 < F.length := hb e (List.mem_cons_self ..)
    by_cases h : F.getD e.2 0 < 0 ∧ ok e.1 e.2 = true
    · have e0 : bst k ok (F, L) e = (F.set e.2 (k + 1), L ++ [e.2]) := by unfold bst; rw [if_pos h]
      rw [e0]
      have Q := bst_fold (ok := ok) hk es (F.set e.2 (k + 1)) (L ++ [e.2]) (fun e' h' => by simpa using hb' e' h')
      have gd : ∀ x, (F.set e.2 (k + 1)).getD x 0 = if e.2 = x then k + 1 else F.getD x 0 := fun x => getD_set F e.2 x _ 0 he
      obtain ⟨M, e1, nd, mm⟩ := Q.app
      refine ⟨by rw [Q.len, List.length_set], fun x hx => ?_, fun x hx hx' => ?_, fun x hx hx' => ?_, e.2 :: M, by rw [e1]; simp, ?_, fun x => ?_⟩
      · have ne : e.2 ≠ x := fun e' => by rw [← e'] at hx; omega
        have := Q.old x (by rw [gd, if_neg ne]; exact hx)
        rw [this, gd, if_neg ne]
      · by_cases ex : e.2 = x
        · have := Q.old x (by rw [gd, if_pos ex]; exact hk)
          rw [this, gd, if_pos ex]
        · refine Q.new x (by rw [gd, if_neg ex]; exact hx) ?_
          obtain ⟨e', m', h1, h2⟩ := hx'
          rcases List.mem_cons.mp m' with rfl | m'
          · exact absurd h1 ex
          · exact ⟨e', m', h1, h2⟩
      · by_cases ex : e.2 = x
        · exact absurd ⟨e, List.mem_cons_self .., ex, ex ▸ h.2⟩ hx'
        · have := Q.non x (by rw [gd, if_neg ex]; exact hx) (fun ⟨e', m', h1⟩ => hx' ⟨e', List.mem_cons_of_mem _ m', h1⟩)
          rw [this, gd, if_neg ex]
      · refine List.nodup_cons.mpr ⟨fun m => ?_, nd⟩
        have := ((mm e.2).mp m).1
        rw [gd, if_pos rfl] at this
        omega
      · rw [List.mem_cons, mm]
        constructor
        · rintro (rfl | ⟨h1, e', m', h2⟩)
          · exact ⟨h.1, e, List.mem_cons_self .., rfl, h.2⟩
          · rw [gd] at h1
            split at h1
            · omega
            · exact ⟨h1, e', List.mem_cons_of_mem _ m', h2⟩
        · rintro ⟨h1, e', m', h2, h3⟩
          by_cases ex : e.2 = x
          · exact .inl ex.symm
          · refine .inr ⟨by rw [gd, if_neg ex]; exact h1, e', ?_, h2, h3⟩
            rcases List.mem_cons.mp m' with rfl | m'
            · exact absurd h2 ex
            · exact m'
    · have e0 : bst k ok (F, L) e = (F, L) := by unfold bst; rw [if_neg h]
      rw [e0]
      have Q := bst_fold (ok := ok) hk es F L hb'
      obtain ⟨M, e1, nd, mm⟩ := Q.app
      have iff : ∀ x, F.getD x 0 < 0 → ((∃ e' ∈ e :: es, e'.2 = x ∧ ok e'.1 x = true) ↔ ∃ e' ∈ es, e'.2 = x ∧ ok e'.1 x = true) := fun x hx => by
        constructor
        · rintro ⟨e', m', h1, h2⟩
          rcases List.mem_cons.mp m' with rfl | m'
          · subst h1; exact absurd ⟨hx, h2⟩ h
          · exact ⟨e', m', h1, h2⟩
        · rintro ⟨e', m', h1⟩
          exact ⟨e', List.mem_cons_of_mem _ m', h1⟩
      refine ⟨Q.len, Q.old, fun x hx hx' => Q.new x hx ((iff x hx).mp hx'), fun x hx hx' => Q.non x hx (fun z => hx' ((iff x hx).mpr z)), M, e1, nd, fun x => ?_⟩
      rw [mm]
      constructor
      · rintro ⟨h1, h2⟩; exact ⟨h1, (iff x h1).mpr h2⟩
      · rintro ⟨h1, h2⟩; exact ⟨h1, (iff x h1).mp h2⟩

/-! ### reached in k steps -/
def Rch (A : Nat → Nat → Prop) (p : Nat) : Nat → Nat → Prop
  | 0, x => x = p
  | k + 1, x => Rch A p k x ∨ ∃ y, Rch A p k y ∧ A y x
/-- in k steps, not in fewer -/
def Lev (A : Nat → Nat → Prop) (p k x : Nat) : Prop := Rch A p k x ∧ ∀ j < k, ¬ Rch A p j x
section
variable {A : Nat → Nat → Prop} {p n : Nat}
theorem Rch.mono : ∀ {k j x : Nat}, k ≤ j → Rch A p k x → Rch A p j x
  | k, 0, x, h, r => by have : k = 0 := by omega
                        subst this; exact r
  | k, j + 1, x, h, r => by
    by_cases e : k = j + 1
    · subst e; exact r
    · exact .inl (Rch.mono (by omega) r)
theorem Rch.lev : ∀ {k x : Nat}, Rch A p k x → ∃ j ≤ k, Lev A p j x
  | 0, x, r => ⟨0, Nat.le_refl _, r, fun j h => by omega⟩
  | k + 1, x, r => by
    by_cases h : Rch A p k x
    · obtain ⟨j, h1, h2⟩ := Rch.lev h
      exact ⟨j, by omega, h2⟩
    · refine ⟨k + 1, Nat.le_refl _, r, fun j hj h' => h (h'.mono (by omega))⟩
theorem Lev.uniq {i j x : Nat} (h : Lev A p i x) (h' : Lev A p j x) : i = j := by
  rcases Nat.lt_trichotomy i j with l | l | l
  · exact absurd h.1 (h'.2 i l)
  · exact l
  · exact absurd h'.1 (h.2 j l)
theorem Lev.zero {x : Nat} : Lev A p 0 x ↔ x = p := ⟨fun h => h.1, fun h => ⟨h, fun j h => by omega⟩⟩
theorem Lev.succ {k x : Nat} : Lev A p (k + 1) x ↔ ¬ Rch A p k x ∧ ∃ y, Lev A p k y ∧ A y x := by
  constructor
  · rintro ⟨h1, h2⟩
    have hn := h2 k (by omega)
    refine ⟨hn, ?_⟩
    rcases h1 with h1 | ⟨y, h1, h3⟩
    · exact absurd h1 hn
    · refine ⟨y, ⟨h1, fun j hj hy => hn ?_⟩, h3⟩
      have : Rch A p (j + 1) x := .inr ⟨y, hy, h3⟩
      exact this.mono (by omega)
  · rintro ⟨h1, y, h2, h3⟩
    exact ⟨.inr ⟨y, h2.1, h3⟩, fun j hj h => h1 (h.mono (by omega))⟩
/-- the state at the level k -/
structure BsQ (A : Nat → Nat → Prop) (p n k : Nat) (F : List Int) (M : List Nat) : Prop where
  len : F.length = n
  pos : ∀ x < n, ∀ j : Nat, F.getD x 0 = j ↔ Lev A p j x ∧ j ≤ k
  neg : ∀ x < n, F.getD x 0 < 0 → F.getD x 0 = -1
  neg' : ∀ x < n, F.getD x 0 < 0 ↔ ¬ Rch A p k x
  mem : ∀ x, x ∈ M ↔ x < n ∧ Lev A p k x
  nd : M.Nodup
/-- how it ends -/
structure DistQ (A : Nat → Nat → Prop) (p n : Nat) (F : List Int) : Prop where
  len : F.length = n
  pos : ∀ x < n, ∀ j : Nat, F.getD x 0 = j ↔ Lev A p j x
  neg : ∀ x < n, F.getD x 0 < 0 → F.getD x 0 = -1
  neg' : ∀ x < n, F.getD x 0 < 0 ↔ ∀ j, ¬ Rch A p j x
theorem DistQ.uniq {F G : List Int} (h : DistQ A p n F) (h' : DistQ A p n G) : F = G := by
  apply List.ext_getElem?
  intro i
  by_cases hi : i < n
  · have e1 : F[i]? = some (F.getD i 0) := by rw [List.getD_eq_getElem?_getD, List.getElem?_eq_getElem (by rw [h.len]; exact hi)]; rfl
    have e2 : G[i]? = some (G.getD i 0) := by rw [List.getD_eq_getElem?_getD, List.getElem?_eq_getElem (by rw [h'.len]; exact hi)]; rfl
    rw [e1, e2]
    congr 1
    by_cases hn : F.getD i 0 < 0
    · rw [h.neg i hi hn, h'.neg i hi ((h'.neg' i hi).mpr ((h.neg' i hi).mp hn))]
    · obtain ⟨j, hj⟩ := Int.eq_ofNat_of_zero_le (by omega : 0 ≤ F.getD i 0)
      rw [hj, (h'.pos i hi j).mpr ((h.pos i hi j).mp hj)]
  · rw [List.getElem?_eq_none (by rw [h.len]; omega), List.getElem?_eq_none (by rw [h'.len]; omega)]
theorem bs_start (hp : p < n) : BsQ A p n 0 ((List.replicate n (-1)).set p 0) [p] := by
  have gd : ∀ x < n, ((List.replicate n (-1 : Int)).set p 0).getD x 0 = if p = x then 0 else -1 := fun x hx => by
    rw [getD_set _ _ _ _ _ (by simpa using hp)]
    split
    · rfl
    · rw [List.getD_eq_getElem?_getD, List.getElem?_replicate, if_pos hx]; rfl
  refine ⟨by simp, fun x hx j => ?_, fun x hx => ?_, fun x hx => ?_, fun x => ?_, by simp⟩
  · rw [gd x hx]
    split
    · rename_i e
      subst e
      constructor
      · intro h
        have : j = 0 := by omega
        subst this
        exact ⟨Lev.zero.mpr rfl, Nat.le_refl _⟩
      · rintro ⟨_, h⟩; omega
    · rename_i e
      constructor
      · intro h; omega
      · rintro ⟨h, h'⟩
        have : j = 0 := by omega
        subst this
        exact absurd (Lev.zero.mp h).symm e
  · rw [gd x hx]; split <;> omega
  · rw [gd x hx]
    show _ ↔ ¬ x = p
    split
    · rename_i e; subst e; simp
    · rename_i e
      constructor
      · exact fun _ e' => e e'.symm
      · exact fun _ => by omega
  · rw [List.mem_singleton, Lev.zero]
    constructor
    · rintro rfl; exact ⟨hp, rfl⟩
    · exact fun h => h.2
/-- ties out of the points of M, in the order of the loops -/
def outs (near : List (List Nat)) (M : List Nat) : List (Nat × Nat) := M.flatMap fun y => (near.getD y []).map fun x => (y, x)
theorem mem_outs {near : List (List Nat)} {M : List Nat} {e : Nat × Nat} : e ∈ outs near M ↔ e.1 ∈ M ∧ e.2 ∈ near.getD e.1 [] := by
  unfold outs
  rw [List.mem_flatMap]
  constructor
  · rintro ⟨y, m, h⟩
    obtain ⟨x, m', rfl⟩ := List.mem_map.mp h
    exact ⟨m, m'⟩
  · rintro ⟨m, h⟩
    exact ⟨e.1, m, List.mem_map.mpr ⟨e.2, h, rfl⟩⟩
def Adj (near : List (List Nat)) (ok : Nat → Nat → Bool) (y x : Nat) : Prop := x ∈ near.getD y [] ∧ ok y x = true
theorem Rch.lt (hp : p < n) (hA : ∀ y x, A y x → x < n) : ∀ {k x : Nat}, Rch A p k x → x < n
  | 0, x, h => by cases h; exact hp
  | k + 1, x, h => by
    rcases h with h | ⟨y, _, h⟩
    · exact Rch.lt hp hA h
    · exact hA _ _ h
theorem bs_step {near : List (List Nat)} {ok : Nat → Nat → Bool} {k : Nat} {F : List Int} {M : List Nat} (hp : p < n) (hn : ∀ y, ∀ x ∈ near.getD y [], x < n) (h : BsQ (Adj near ok) p n k F M) :
    BsQ (Adj near ok) p n (k + 1) ((outs near M).foldl (bst k ok) (F, [])).1 ((outs near M).foldl (bst k ok) (F, [])).2 := by
  have Q := bst_fold (k := (k : Int)) (ok := ok) (by omega) (outs near M) F [] (fun e m => by rw [h.len]; exact hn _ _ (mem_outs.mp m).2)
  generalize (outs near M).foldl (bst k ok) (F, []) = r at Q ⊢
  obtain ⟨L, e1, nd, mm⟩ := Q.app
  rw [List.nil_append] at e1
  have hA : ∀ y x, Adj near ok y x → x < n := fun y x h => hn y x h.1
  have ex : ∀ x, (∃ e ∈ outs near M, e.2 = x ∧ ok e.1 x = true) ↔ ∃ y, Lev (Adj near ok) p k y ∧ Adj near ok y x := fun x => by
    constructor
    · rintro ⟨e, m, rfl, h2⟩
      obtain ⟨m1, m2⟩ := mem_outs.mp m
      have := (h.mem _).mp m1
      exact ⟨e.1, this.2, m2, h2⟩
    · rintro ⟨y, h1, h2, h3⟩
      exact ⟨(y, x), mem_outs.mpr ⟨(h.mem y).mpr ⟨h1.1.lt hp hA, h1⟩, h2⟩, rfl, h3⟩
  have succ : ∀ x < n, (F.getD x 0 < 0 ∧ ∃ e ∈ outs near M, e.2 = x ∧ ok e.1 x = true) ↔ Lev (Adj near ok) p (k + 1) x := fun x hx => by
    rw [ex, h.neg' x hx, Lev.succ]
  have nsucc : ∀ x, Rch (Adj near ok) p (k + 1) x → ¬ Rch (Adj near ok) p k x → Lev (Adj near ok) p (k + 1) x := fun x h1 h2 => ⟨h1, fun j hj h => h2 (h.mono (by omega))⟩
  refine ⟨by rw [Q.len, h.len], fun x hx j => ?_, fun x hx hl => ?_, fun x hx => ?_, fun x => ?_, by rw [e1]; exact nd⟩
  · by_cases hF : F.getD x 0 < 0
    · by_cases hE : ∃ e ∈ outs near M, e.2 = x ∧ ok e.1 x = true
      · rw [Q.new x hF hE]
        have lv := (succ x hx).mp ⟨hF, hE⟩
        constructor
        · intro e
          have : j = k + 1 := by omega
          subst this
          exact ⟨lv, Nat.le_refl _⟩
        · rintro ⟨l, _⟩
          have := l.uniq lv
          omega
      · rw [Q.non x hF hE]
        constructor
        · intro e; omega
        · rintro ⟨l, hj⟩
          have nr := (h.neg' x hx).mp hF
          have : j = k + 1 := by
            by_cases e : j = k + 1
            · exact e
            · exact absurd (l.1.mono (by omega)) nr
          subst this
          exact absurd ((succ x hx).mpr l).2 hE
    · rw [Q.old x (by omega), h.pos x hx j]
      constructor
      · rintro ⟨l, hj⟩; exact ⟨l, by omega⟩
      · rintro ⟨l, hj⟩
        refine ⟨l, ?_⟩
        have r : Rch (Adj near ok) p k x := Classical.byContradiction fun z => hF ((h.neg' x hx).mpr z)
        obtain ⟨i, hi, li⟩ := r.lev
        have := l.uniq li
        omega
  · by_cases hF : F.getD x 0 < 0
    · by_cases hE : ∃ e ∈ outs near M, e.2 = x ∧ ok e.1 x = true
      · rw [Q.new x hF hE] at hl; omega
      · rw [Q.non x hF hE]; exact h.neg x hx hF
    · rw [Q.old x (by omega)] at hl; omega
  · by_cases hF : F.getD x 0 < 0
    · by_cases hE : ∃ e ∈ outs near M, e.2 = x ∧ ok e.1 x = true
      · rw [Q.new x hF hE]
        have lv := (succ x hx).mp ⟨hF, hE⟩
        constructor
        · intro e; omega
        · intro e; exact absurd lv.1 e
      · rw [Q.non x hF hE]
        constructor
        · intro _ r
          exact hE ((succ x hx).mpr (nsucc x r ((h.neg' x hx).mp hF))).2
        · exact fun _ => hF
    · rw [Q.old x (by omega)]
      constructor
      · intro e; omega
      · intro e
        exact absurd (Rch.mono (by omega) (Classical.byContradiction fun z => hF ((h.neg' x hx).mpr z)) : Rch (Adj near ok) p (k + 1) x) e
  · rw [e1, mm]
    constructor
    · rintro ⟨h1, h2⟩
      have hx : x < n := by
        obtain ⟨e, m, rfl, _⟩ := h2
        exact hn _ _ (mem_outs.mp m).2
      exact ⟨hx, (succ x hx).mp ⟨h1, h2⟩⟩
    · rintro ⟨hx, l⟩
      exact (succ x hx).mpr l
/-- how many are not reached yet -/
def negs (F : List Int) : Nat := F.countP fun x => decide (x < 0)
theorem lev_none {k : Nat} (h : ∀ x, ¬ Lev A p k x) : ∀ j ≥ k, ∀ x, ¬ Lev A p j x := fun j hj => by
  induction j with
  | zero => have : k = 0 := by omega
            subst this; exact h
  | succ j ih =>
    by_cases e : k = j + 1
    · subst e; exact h
    · intro x l
      obtain ⟨_, y, hy, _⟩ := Lev.succ.mp l
      exact ih (by omega) y hy
theorem bs_end (hp : p < n) (hA : ∀ y x, A y x → x < n) {k : Nat} {F : List Int} {M : List Nat} (h : BsQ A p n k F M) (he : M = [] ∨ ∀ x < n, 0 ≤ F.getD x 0) : DistQ A p n F := by
  have key : ∀ x < n, ∀ j, Lev A p j x → j ≤ k := fun x hx j l => by
    by_cases hj : j ≤ k
    · exact hj
    · exfalso
      rcases he with he | he
      · have : ∀ x, ¬ Lev A p k x := fun x l => by
          have := (h.mem x).mpr ⟨l.1.lt hp hA, l⟩
          rw [he] at this
          cases this
        exact lev_none this j (by omega) x l
      · have := he x hx
        have r : Rch A p k x := Classical.byContradiction fun z => by have := (h.neg' x hx).mpr z; omega
        obtain ⟨i, hi, li⟩ := r.lev
        have := l.uniq li
        omega
  refine ⟨h.len, fun x hx j => ?_, h.neg, fun x hx => ?_⟩
  · rw [h.pos x hx j]
    exact ⟨fun z => z.1, fun z => ⟨z, key x hx j z⟩⟩
  · rw [h.neg' x hx]
    constructor
    · intro hr j hj
      obtain ⟨i, _, li⟩ := hj.lev
      exact hr (li.1.mono (key x hx i li))
    · exact fun hr => hr k
theorem countP_set {F : List Int} {x : Nat} {v : Int} (hx : x < F.length) (h0 : F.getD x 0 < 0) (hv : 0 ≤ v) : negs (F.set x v) + 1 = negs F := by
  unfold negs
  induction F generalizing x with
  | nil => simp at hx
  | cons a F ih =>
    cases x with
    | zero =>
      have h0 : a < 0 := by simpa using h0
      simp only [List.set_cons_zero, List.countP_cons]
      have : ¬ v < 0 := by omega
      simp [h0, this]
    | succ x =>
      have := ih (x := x) (by simpa using hx) (by simpa using h0)
      simp only [List.set_cons_succ, List.countP_cons]
      omega
theorem bst_negs {k : Int} (hk : 0 ≤ k + 1) {ok : Nat → Nat → Bool} : ∀ (es : List (Nat × Nat)) (F : List Int) (L : List Nat), (∀ e ∈ es, e.2 < F.length) → negs (es.foldl (bst k ok) (F, L)).1 + (es.foldl (bst k ok) (F, L)).2.length = negs F + L.length
  | [], F, L, _ => rfl
  | e :: es, F, L, hb => by
    rw [List.foldl_cons]
    have he : e.2 < F.length := hb e (List.mem_cons_self ..)
    by_cases h : F.getD e.2 0 < 0 ∧ ok e.1 e.2 = true
    · have e0 : bst k ok (F, L) e = (F.set e.2 (k + 1), L ++ [e.2]) := by unfold bst; rw [if_pos h]
      rw [e0, bst_negs hk es _ _ (fun e' h' => by rw [List.length_set]; exact hb e' (List.mem_cons_of_mem _ h'))]
      have := countP_set (v := k + 1) he h.1 hk
      simp; omega
    · have e0 : bst k ok (F, L) e = (F, L) := by unfold bst; rw [if_neg h]
      rw [e0]
      exact bst_negs hk es F L fun e' h' => hb e' (List.mem_cons_of_mem _ h')
theorem negs_le (F : List Int) : negs F ≤ F.length := List.countP_le_length
theorem negs_zero {F : List Int} (h : negs F = 0) : ∀ x < F.length, 0 ≤ F.getD x 0 := fun x hx => by
  have := List.countP_eq_zero.mp h (F[x]) (List.getElem_mem hx)
  rw [List.getD_eq_getElem?_getD, List.getElem?_eq_getElem hx]
  simp at this ⊢
  exact this
end
end Eng
namespace Eng
/-! ### the near lists of a web -/
def addTie (N : List (List Nat)) (e : Nat × Nat) : List (List Nat) :=
  (N.set e.1 (N.getD e.1 [] ++ [e.2])).set e.2 ((N.set e.1 (N.getD e.1 [] ++ [e.2])).getD e.2 [] ++ [e.1])
def nearOf (n : Nat) (ties : List (Nat × Nat)) : List (List Nat) := ties.foldl addTie (List.replicate n [])
theorem addTie_len (N : List (List Nat)) (e : Nat × Nat) : (addTie N e).length = N.length := by simp [addTie]
theorem addTies_len : ∀ (es : List (Nat × Nat)) (N : List (List Nat)), (es.foldl addTie N).length = N.length
  | [], N => rfl
  | e :: es, N => by rw [List.foldl_cons, addTies_len es, addTie_len]
theorem nearOf_len (n : Nat) (es : List (Nat × Nat)) : (nearOf n es).length = n := by simp [nearOf, addTies_len]
theorem mem_addTie {N : List (List Nat)} {e : Nat × Nat} (h1 : e.1 < N.length) (h2 : e.2 < N.length) (x y : Nat) : x ∈ (addTie N e).getD y [] ↔ x ∈ N.getD y [] ∨ (y, x) = e ∨ (x, y) = e := by
  unfold addTie
  rw [getD_set _ _ _ _ _ (by simpa using h2), getD_set _ _ _ _ _ h1, getD_set _ _ _ _ _ h1]
  obtain ⟨i, j⟩ := e
  simp only [Prod.mk.injEq]
  by_cases hj : j = y
  · subst hj
    by_cases hi : i = j
    · subst hi; simp
    · simp [hi]; grind
  · by_cases hi : i = y
    · subst hi; simp [hj]; grind
    · simp [hj, hi]; grind
theorem mem_addTies : ∀ (es : List (Nat × Nat)) (N : List (List Nat)), (∀ e ∈ es, e.1 < N.length ∧ e.2 < N.length) → ∀ x y : Nat, x ∈ (es.foldl addTie N).getD y [] ↔ x ∈ N.getD y [] ∨ (y, x) ∈ es ∨ (x, y) ∈ es
  | [], N, _, x, y => by simp
  | e :: es, N, h, x, y => by
    have he := h e (List.mem_cons_self ..)
    rw [List.foldl_cons, mem_addTies es _ (fun e' h' => by rw [addTie_len]; exact h e' (List.mem_cons_of_mem _ h')), mem_addTie he.1 he.2]
    simp only [List.mem_cons]
    grind
/-- the ties lie within n points -/
def InN (n : Nat) (ties : List (Nat × Nat)) : Prop := ∀ e ∈ ties, e.1 < n ∧ e.2 < n
theorem mem_nearOf {n : Nat} {ties : List (Nat × Nat)} (h : InN n ties) (x y : Nat) : x ∈ (nearOf n ties).getD y [] ↔ (y, x) ∈ ties ∨ (x, y) ∈ ties := by
  have e0 : (List.replicate n ([] : List Nat)).getD y [] = [] := by
    rw [List.getD_eq_getElem?_getD, List.getElem?_replicate]; split <;> rfl
  unfold nearOf
  rw [mem_addTies ties _ (by rw [List.length_replicate]; exact h) x y, e0]
  simp
theorem nearOf_lt {n : Nat} {ties : List (Nat × Nat)} (h : InN n ties) : ∀ y, ∀ x ∈ (nearOf n ties).getD y [], x < n := fun y x m => by
  rcases (mem_nearOf h x y).mp m with m | m
  · exact (h _ m).2
  · exact (h _ m).1
/-- how long the rows grow -/
theorem addTies_row : ∀ (es : List (Nat × Nat)) (N : List (List Nat)) (y m : Nat), (∀ e ∈ es, e.1 < N.length ∧ e.2 < N.length) → (∀ y, (N.getD y []).length ≤ m) → ((es.foldl addTie N).getD y []).length ≤ m + 2 * es.length
  | [], N, y, m, _, h => by simpa using h y
  | e :: es, N, y, m, hb, h => by
    rw [List.foldl_cons]
    have he := hb e (List.mem_cons_self ..)
    have := addTies_row es (addTie N e) y (m + 2) (fun e' h' => by rw [addTie_len]; exact hb e' (List.mem_cons_of_mem _ h')) (fun y => by
      unfold addTie
      rw [getD_set _ _ _ _ _ (by simpa using he.2), getD_set _ _ _ _ _ he.1, getD_set _ _ _ _ _ he.1]
      have := h y
      have := h e.1
      have := h e.2
      grind)
    simp at this ⊢
    omega
theorem nearOf_row {n : Nat} {ties : List (Nat × Nat)} (h : InN n ties) (y : Nat) : ((nearOf n ties).getD y []).length ≤ 2 * ties.length := by
  have := addTies_row ties (List.replicate n []) y 0 (by rw [List.length_replicate]; exact h) (fun y => by
    rw [List.getD_eq_getElem?_getD, List.getElem?_replicate]; split <;> simp)
  simpa [nearOf] using this
/-- a web as data -/
def web (n : Nat) (ties : List (Nat × Nat)) : D := .tuple [.int n, TE (p2 dN dN) ties]
theorem w_web0 {n : Nat} {ties : List (Nat × Nat)} : itemT (.dat (web n ties)) (.int 0) = some (.dat (.int n), none) := by rw [web, w_item_t, w_at_0]; rfl
theorem w_web1 {n : Nat} {ties : List (Nat × Nat)} : itemT (.dat (web n ties)) (.int 1) = some (.dat (TE (p2 dN dN) ties), none) := by rw [web, w_item_t, w_at_1]; rfl
theorem w_gweb0 {n : Nat} {ties : List (Nat × Nat)} {ks : List Int} : getP (.dat (web n ties)) (0 :: ks) = getP (.dat (.int n)) ks := by rw [web, w_getP_tup0]
theorem w_gweb1 {n : Nat} {ties : List (Nat × Nat)} {ks : List Int} : getP (.dat (web n ties)) (1 :: ks) = getP (.dat (TE (p2 dN dN) ties)) ks := by rw [web, w_getP_tup1]
/-- the going out as a function -/
def bfsGo (near : List (List Nat)) (ok : Nat → Nat → Bool) : Nat → Nat → List Int → List Nat → List Int
  | 0, _, F, _ => F
  | f + 1, k, F, M => if M.isEmpty then F else bfsGo near ok f (k + 1) ((outs near M).foldl (bst k ok) (F, [])).1 ((outs near M).foldl (bst k ok) (F, [])).2
def bfs (near : List (List Nat)) (ok : Nat → Nat → Bool) (p : Nat) : List Int := bfsGo near ok near.length 0 ((List.replicate near.length (-1)).set p 0) [p]
theorem bfsGo_ok {near : List (List Nat)} {ok : Nat → Nat → Bool} {p n : Nat} (hp : p < n) (hn : ∀ y, ∀ x ∈ near.getD y [], x < n) : ∀ (f k : Nat) (F : List Int) (M : List Nat), BsQ (Adj near ok) p n k F M → negs F + (if M = [] then 0 else 1) ≤ f → DistQ (Adj near ok) p n (bfsGo near ok f k F M)
  | 0, k, F, M, h, hf => bs_end hp (fun y x h => hn y x h.1) h (.inl (by
      by_cases e : M = []
      · exact e
      · rw [if_neg e] at hf; omega))
  | f + 1, k, F, M, h, hf => by
    unfold bfsGo
    by_cases e : M = []
    · subst e
      exact bs_end hp (fun y x h => hn y x h.1) h (.inl rfl)
    · rw [if_neg (by simpa using e)]
      have hS := bs_step hp hn h
      have hb : ∀ e ∈ outs near M, e.2 < F.length := fun e m => by rw [h.len]; exact hn _ _ (mem_outs.mp m).2
      have N := bst_negs (k := (k : Int)) (ok := ok) (by omega) _ F [] hb
      rw [if_neg e] at hf
      generalize (outs near M).foldl (bst k ok) (F, []) = r at hS N ⊢
      refine bfsGo_ok hp hn f (k + 1) r.1 r.2 hS ?_
      simp only [List.length_nil, Nat.add_zero] at N
      split
      · omega
      · rename_i e'
        have : 0 < r.2.length := List.length_pos_iff.mpr e'
        omega
theorem bfs_ok {near : List (List Nat)} {ok : Nat → Nat → Bool} {p : Nat} (hp : p < near.length) (hn : ∀ y, ∀ x ∈ near.getD y [], x < near.length) : DistQ (Adj near ok) p near.length (bfs near ok p) := by
  refine bfsGo_ok hp hn _ _ _ _ (bs_start hp) ?_
  have h0 : ((List.replicate near.length (-1 : Int)).getD p 0) < 0 := by
    rw [List.getD_eq_getElem?_getD, List.getElem?_replicate, if_pos hp]; decide
  have := countP_set (F := List.replicate near.length (-1)) (x := p) (v := 0) (by simpa using hp) h0 (by decide)
  have := negs_le (List.replicate near.length (-1))
  simp at this ⊢
  omega
theorem bfs_len {near : List (List Nat)} {ok : Nat → Nat → Bool} {p : Nat} (hp : p < near.length) (hn : ∀ y, ∀ x ∈ near.getD y [], x < near.length) : (bfs near ok p).length = near.length := (bfs_ok hp hn).len
theorem DistQ.neg_iff {A : Nat → Nat → Prop} {p n : Nat} {F : List Int} (h : DistQ A p n F) {x : Nat} (hx : x < n) : F.getD x 0 = -1 ↔ F.getD x 0 < 0 := ⟨fun e => by omega, h.neg x hx⟩
theorem DistQ.lt {A : Nat → Nat → Prop} {p n : Nat} {F : List Int} (h : DistQ A p n F) {i : Int} (hi : i ∈ F) : -1 ≤ i := by
  obtain ⟨x, hx, rfl⟩ := List.getElem_of_mem hi
  have e : F[x] = F.getD x 0 := by rw [List.getD_eq_getElem?_getD, List.getElem?_eq_getElem hx]; rfl
  rw [e]
  by_cases hn : F.getD x 0 < 0
  · have := h.neg x (by rw [← h.len]; exact hx) hn; omega
  · omega
theorem bfsGo_le {near : List (List Nat)} {ok : Nat → Nat → Bool} {n : Nat} (hn : ∀ y, ∀ x ∈ near.getD y [], x < n) : ∀ (f k : Nat) (F : List Int) (M : List Nat), F.length = n → (∀ x, F.getD x 0 ≤ k) → ∀ x, (bfsGo near ok f k F M).getD x 0 ≤ k + f
  | 0, k, F, M, _, h, x => by simpa [bfsGo] using h x
  | f + 1, k, F, M, hl, h, x => by
    unfold bfsGo
    split
    · have := h x; omega
    · have hb : ∀ e ∈ outs near M, e.2 < F.length := fun e m => by rw [hl]; exact hn _ _ (mem_outs.mp m).2
      have Q := bst_fold (k := (k : Int)) (ok := ok) (by omega) (outs near M) F [] hb
      have := bfsGo_le hn (ok := ok) f (k + 1) _ ((outs near M).foldl (bst k ok) (F, [])).2 (Q.len.trans hl) (fun z => by
        by_cases h0 : F.getD z 0 < 0
        · by_cases hE : ∃ e ∈ outs near M, e.2 = z ∧ ok e.1 z = true
          · rw [Q.new z h0 hE]; omega
          · rw [Q.non z h0 hE]; omega
        · rw [Q.old z (by omega)]; have := h z; omega) x
      omega
theorem bfs_le {near : List (List Nat)} {ok : Nat → Nat → Bool} {p : Nat} (hp : p < near.length) (hn : ∀ y, ∀ x ∈ near.getD y [], x < near.length) (x : Nat) : (bfs near ok p).getD x 0 ≤ near.length := by
  have := bfsGo_le (ok := ok) hn near.length 0 ((List.replicate near.length (-1)).set p 0) [p] (by simp) (fun x => by
    rw [getD_set _ _ _ _ _ (by simpa using hp)]
    split
    · omega
    · rw [List.getD_eq_getElem?_getD, List.getElem?_replicate]; split <;> simp) x
  unfold bfs
  omega
/-- all ties but this one, as it is met from its first end -/
def butTie (i j : Nat) (y x : Nat) : Bool := !(decide (y = i) && decide (x = j))
/-- a shortest ring through this tie -/
def ringAt (n : Nat) (ties : List (Nat × Nat)) (e : Nat × Nat) : Option Nat :=
  if (bfs (nearOf n ties) (butTie e.1 e.2) e.1).getD e.2 0 < 0 then none else some ((bfs (nearOf n ties) (butTie e.1 e.2) e.1).getD e.2 0 + 1).toNat
def minO : Option Nat → Option Nat → Option Nat
  | none, b => b
  | a, none => a
  | some a, some b => some (if b < a then b else a)
/-- the least ring -/
def ringN (n : Nat) (ties : List (Nat × Nat)) : Option Nat := ties.foldl (fun o e => minO o (ringAt n ties e)) none
/-- o is the least of g -/
def IsMin {α : Type} (xs : List α) (g : α → Option Nat) (o : Option Nat) : Prop := match o with
  | none => ∀ e ∈ xs, g e = none
  | some m => (∃ e ∈ xs, g e = some m) ∧ ∀ e ∈ xs, ∀ r, g e = some r → m ≤ r
theorem IsMin.uniq {α : Type} {xs : List α} {g : α → Option Nat} {o o' : Option Nat} (h : IsMin xs g o) (h' : IsMin xs g o') : o = o' := by
  cases o with
  | none =>
    cases o' with
    | none => rfl
    | some m =>
      obtain ⟨⟨e, he, h1⟩, _⟩ := h'
      rw [h e he] at h1; cases h1
  | some m =>
    cases o' with
    | none =>
      obtain ⟨⟨e, he, h1⟩, _⟩ := h
      rw [h' e he] at h1; cases h1
    | some m' =>
      obtain ⟨⟨e, he, h1⟩, h2⟩ := h
      obtain ⟨⟨e', he', h1'⟩, h2'⟩ := h'
      have := h2 e' he' m' h1'
      have := h2' e he m h1
      congr 1; omega
theorem isMin_snoc {α : Type} {xs : List α} {g : α → Option Nat} {o : Option Nat} {x : α} (h : IsMin xs g o) : IsMin (xs ++ [x]) g (minO o (g x)) := by
  cases o with
  | none =>
    cases hx : g x with
    | none =>
      intro e he
      rcases List.mem_append.mp he with he | he
      · exact h e he
      · rw [List.mem_singleton.mp he, hx]
    | some m =>
      refine ⟨⟨x, by simp, hx⟩, fun e he r hr => ?_⟩
      rcases List.mem_append.mp he with he | he
      · rw [h e he] at hr; cases hr
      · rw [List.mem_singleton.mp he, hx] at hr; cases hr; exact Nat.le_refl _
  | some m =>
    obtain ⟨⟨e0, he0, h1⟩, h2⟩ := h
    cases hx : g x with
    | none =>
      refine ⟨⟨e0, by simp [he0], h1⟩, fun e he r hr => ?_⟩
      rcases List.mem_append.mp he with he | he
      · exact h2 e he r hr
      · rw [List.mem_singleton.mp he, hx] at hr; cases hr
    | some m' =>
      unfold minO
      by_cases hlt : m' < m
      · simp only [hlt, if_true]
        refine ⟨⟨x, by simp, hx⟩, fun e he r hr => ?_⟩
        rcases List.mem_append.mp he with he | he
        · have := h2 e he r hr; omega
        · rw [List.mem_singleton.mp he, hx] at hr; cases hr; exact Nat.le_refl _
      · simp only [hlt, if_false]
        refine ⟨⟨e0, by simp [he0], h1⟩, fun e he r hr => ?_⟩
        rcases List.mem_append.mp he with he | he
        · exact h2 e he r hr
        · rw [List.mem_singleton.mp he, hx] at hr; cases hr; omega
theorem isMin_foldl {α : Type} {g : α → Option Nat} : ∀ (xs pre : List α) (o : Option Nat), IsMin pre g o → IsMin (pre ++ xs) g (xs.foldl (fun o e => minO o (g e)) o)
  | [], pre, o, h => by simpa using h
  | x :: xs, pre, o, h => by
    have := isMin_foldl xs (pre ++ [x]) _ (isMin_snoc (x := x) h)
    simpa using this
theorem ringN_min (n : Nat) (ties : List (Nat × Nat)) : IsMin ties (ringAt n ties) (ringN n ties) := by
  have := isMin_foldl (g := ringAt n ties) ties [] none (fun e he => by simp at he)
  simpa [ringN] using this
/-! ### a tie left out, both ways -/
def neL (o : Option (Nat × Nat)) (y x : Nat) : Bool := match o with
  | none => true
  | some e => !(decide (y = e.1) && decide (x = e.2))
def okL (o : Option (Nat × Nat)) (y x : Nat) : Bool := neL o y x && neL o x y
theorem okL_none : okL none = fun _ _ => true := by funext y x; rfl
theorem Rch_congr_start {A B : Nat → Nat → Prop} {p : Nat} (h : ∀ y x, x ≠ p → (A y x ↔ B y x)) : ∀ k x, Rch A p k x ↔ Rch B p k x
  | 0, x => Iff.rfl
  | k + 1, x => by
    show (Rch A p k x ∨ _) ↔ (Rch B p k x ∨ _)
    by_cases e : x = p
    · have h1 : Rch A p k x := Rch.mono (Nat.zero_le k) (show Rch A p 0 x from e)
      have h2 : Rch B p k x := Rch.mono (Nat.zero_le k) (show Rch B p 0 x from e)
      simp [h1, h2]
    · simp only [Rch_congr_start h k, h _ x e]
theorem DistQ.congr {A B : Nat → Nat → Prop} {p n : Nat} {F : List Int} (h : ∀ k x, Rch A p k x ↔ Rch B p k x) (d : DistQ A p n F) : DistQ B p n F := by
  have hl : ∀ k x, Lev A p k x ↔ Lev B p k x := fun k x => by unfold Lev; simp only [h]
  exact ⟨d.len, fun x hx j => by rw [d.pos x hx j, hl], d.neg, fun x hx => by rw [d.neg' x hx]; simp only [h]⟩
theorem bfs_okL {near : List (List Nat)} {i j : Nat} (hi : i < near.length) (hn : ∀ y, ∀ x ∈ near.getD y [], x < near.length) (hij : i ≠ j) : bfs near (okL (some (i, j))) i = bfs near (butTie i j) i := by
  refine ((bfs_ok hi hn).congr (Rch_congr_start fun y x hx => ?_)).uniq (bfs_ok hi hn)
  unfold Adj okL neL butTie
  have : ¬ (x = i ∧ y = j) := fun h => hx h.1
  simp only [Bool.and_eq_true, Bool.not_eq_true', Bool.and_eq_false_imp, decide_eq_true_eq, decide_eq_false_iff_not]
  constructor
  · rintro ⟨a, b, c⟩; exact ⟨a, b⟩
  · rintro ⟨a, b⟩; exact ⟨a, b, fun e => absurd e hx⟩
/-- steps of the law beside the ring at a tie -/
theorem ringAt_steps {n : Nat} {ties : List (Nat × Nat)} (hb : InN n ties) {e : Nat × Nat} (he : e ∈ ties) (hne : e.1 ≠ e.2) :
    ringAt n ties e = if 0 < (bfs (nearOf n ties) (okL (some e)) e.1).getD e.2 0 then some ((bfs (nearOf n ties) (okL (some e)) e.1).getD e.2 0 + 1).toNat else none := by
  have hl := nearOf_len n ties
  have hn : ∀ y, ∀ x ∈ (nearOf n ties).getD y [], x < (nearOf n ties).length := by rw [hl]; exact nearOf_lt hb
  have h1 := (hb e he).1
  have h2 := (hb e he).2
  have e0 : bfs (nearOf n ties) (okL (some e)) e.1 = bfs (nearOf n ties) (butTie e.1 e.2) e.1 := bfs_okL (by rw [hl]; exact h1) hn hne
  rw [e0, ringAt]
  have d := bfs_ok (ok := butTie e.1 e.2) (p := e.1) (by rw [hl]; exact h1) hn
  have nz : (bfs (nearOf n ties) (butTie e.1 e.2) e.1).getD e.2 0 ≠ 0 := fun z => by
    have := (d.pos e.2 (by rw [hl]; exact h2) 0).mp z
    exact hne (Lev.zero.mp this).symm
  by_cases h : (bfs (nearOf n ties) (butTie e.1 e.2) e.1).getD e.2 0 < 0
  · rw [if_pos h, if_neg (by omega)]
  · rw [if_neg h, if_pos (by omega)]
/-! ### one part -/
theorem Rch.trans {A : Nat → Nat → Prop} {p a y : Nat} (h : Rch A p a y) : ∀ {b z : Nat}, Rch A y b z → Rch A p (a + b) z
  | 0, z, h' => by cases h'; exact h
  | b + 1, z, h' => by
    rcases h' with h' | ⟨w, h', h''⟩
    · exact .inl (Rch.trans h h')
    · exact .inr ⟨w, Rch.trans h h', h''⟩
theorem Rch.symm {A : Nat → Nat → Prop} (hA : ∀ y x, A y x → A x y) {p : Nat} : ∀ {k x : Nat}, Rch A p k x → Rch A x k p
  | 0, x, h => by cases h; exact rfl
  | k + 1, x, h => by
    rcases h with h | ⟨y, h, h'⟩
    · exact .inl (Rch.symm hA h)
    · have h1 : Rch A x 1 y := .inr ⟨x, rfl, hA _ _ h'⟩
      have := h1.trans (Rch.symm hA h)
      rwa [Nat.add_comm] at this
theorem near_symm {n : Nat} {ties : List (Nat × Nat)} (hb : InN n ties) {ok : Nat → Nat → Bool} (hok : ∀ y x, ok y x = ok x y) (y x : Nat) (h : Adj (nearOf n ties) ok y x) : Adj (nearOf n ties) ok x y :=
  ⟨(mem_nearOf hb y x).mpr (((mem_nearOf hb x y).mp h.1).symm), by rw [hok]; exact h.2⟩
/-- the rows of a web -/
def rowOf (n : Nat) (ties : List (Nat × Nat)) (p : Nat) : List Int := bfs (nearOf n ties) (fun _ _ => true) p
theorem row_ok {n : Nat} {ties : List (Nat × Nat)} (hb : InN n ties) {p : Nat} (hp : p < n) : DistQ (Adj (nearOf n ties) fun _ _ => true) p n (rowOf n ties p) := by
  have := bfs_ok (near := nearOf n ties) (ok := fun _ _ => true) (p := p) (by rw [nearOf_len]; exact hp) (by rw [nearOf_len]; exact nearOf_lt hb)
  rwa [nearOf_len] at this
theorem neg_mem {A : Nat → Nat → Prop} {p n : Nat} {F : List Int} (d : DistQ A p n F) : -1 ∈ F ↔ ∃ x < n, ∀ j, ¬ Rch A p j x := by
  constructor
  · intro h
    obtain ⟨x, hx, e⟩ := List.getElem_of_mem h
    have e' : F.getD x 0 = -1 := by rw [List.getD_eq_getElem?_getD, List.getElem?_eq_getElem hx]; exact e
    have hx := d.len ▸ hx
    exact ⟨x, hx, (d.neg' x hx).mp (by omega)⟩
  · rintro ⟨x, hx, h⟩
    have h1 := (d.neg' x hx).mpr h
    have h2 := d.neg x hx h1
    have hl : x < F.length := by rw [d.len]; exact hx
    have e : F[x] = -1 := by rw [← h2, List.getD_eq_getElem?_getD, List.getElem?_eq_getElem hl]; rfl
    rw [← e]
    exact List.getElem_mem hl
theorem row_neg {n : Nat} {ties : List (Nat × Nat)} (hb : InN n ties) (h0 : -1 ∉ rowOf n ties 0) {p : Nat} (hp : p < n) : -1 ∉ rowOf n ties p := by
  have h0n : 0 < n := by omega
  have r0 : ∀ x < n, ∃ j, Rch (Adj (nearOf n ties) fun _ _ => true) 0 j x := fun x hx => Classical.byContradiction fun h => h0 ((neg_mem (row_ok hb h0n)).mpr ⟨x, hx, fun j hj => h ⟨j, hj⟩⟩)
  intro h
  obtain ⟨x, hx, hn⟩ := (neg_mem (row_ok hb hp)).mp h
  obtain ⟨a, ha⟩ := r0 p hp
  obtain ⟨b, hb'⟩ := r0 x hx
  exact hn _ ((ha.symm (near_symm hb (fun _ _ => rfl))).trans hb')
/-- the greatest item of all rows -/
def widthN (n : Nat) (ties : List (Nat × Nat)) : Option Int := if -1 ∈ rowOf n ties 0 then none else maxI ((List.range n).map fun p => (maxI (rowOf n ties p)).getD 0)
end Eng

/-! ### Cnt -/
namespace Eng
open PySem L2
/-- all pairs, and all webs of n points in the order of the program -/
def pairsTo (n i : Nat) : List (Nat × Nat) := (List.range i).flatMap fun i => (List.range (n - (i + 1))).map fun j => (i, i + 1 + j)
def pairsN (n : Nat) : List (Nat × Nat) := pairsTo n n
def moreTies (f : List (List (Nat × Nat))) (p : Nat × Nat) : List (List (Nat × Nat)) := f ++ f.map fun t => t ++ [p]
def tiesOf (ps : List (Nat × Nat)) : List (List (Nat × Nat)) := ps.foldl moreTies [[]]
def allTies (n : Nat) : List (List (Nat × Nat)) := tiesOf (pairsN n)
theorem tiesOf_len : ∀ (ps : List (Nat × Nat)) (f : List (List (Nat × Nat))), (ps.foldl moreTies f).length = f.length * 2 ^ ps.length
  | [], f => by simp
  | p :: ps, f => by
    rw [List.foldl_cons, tiesOf_len ps]
    simp only [moreTies, List.length_append, List.length_map, List.length_cons, Nat.pow_succ]
    rw [Nat.mul_comm (2 ^ ps.length) 2, ← Nat.mul_assoc]
    congr 1; omega
theorem pairsTo_succ (n i : Nat) : pairsTo n (i + 1) = pairsTo n i ++ (List.range (n - (i + 1))).map fun j => (i, i + 1 + j) := by
  simp [pairsTo, List.range_succ]
theorem mem_pairsN {n : Nat} {e : Nat × Nat} : e ∈ pairsN n ↔ e.1 < e.2 ∧ e.2 < n := by
  unfold pairsN pairsTo
  rw [List.mem_flatMap]
  constructor
  · rintro ⟨i, hi, h⟩
    obtain ⟨j, hj, rfl⟩ := List.mem_map.mp h
    rw [List.mem_range] at hi hj
    simp; omega
  · rintro ⟨h1, h2⟩
    exact ⟨e.1, List.mem_range.mpr (by omega), List.mem_map.mpr ⟨e.2 - (e.1 + 1), List.mem_range.mpr (by omega), by apply Prod.ext <;> simp; omega⟩⟩
theorem mem_tiesOf : ∀ (ps : List (Nat × Nat)) (f : List (List (Nat × Nat))) (t : List (Nat × Nat)), t ∈ ps.foldl moreTies f ↔ ∃ a ∈ f, ∃ b, b.Sublist ps ∧ t = a ++ b
  | [], f, t => by simp
  | p :: ps, f, t => by
    rw [List.foldl_cons, mem_tiesOf ps]
    constructor
    · rintro ⟨a, ha, b, hb, rfl⟩
      rcases List.mem_append.mp ha with ha | ha
      · exact ⟨a, ha, b, .cons _ hb, rfl⟩
      · obtain ⟨c, hc, rfl⟩ := List.mem_map.mp ha
        exact ⟨c, hc, p :: b, .cons_cons _ hb, by simp⟩
    · rintro ⟨a, ha, b, hb, rfl⟩
      cases hb with
      | cons _ hb => exact ⟨a, List.mem_append_left _ ha, b, hb, rfl⟩
      | cons_cons _ hb =>
        rename_i b
        exact ⟨a ++ [p], List.mem_append_right _ (List.mem_map.mpr ⟨a, ha, rfl⟩), b, hb, by simp⟩
theorem mem_allTies {n : Nat} {t : List (Nat × Nat)} : t ∈ allTies n ↔ t.Sublist (pairsN n) := by
  unfold allTies tiesOf
  rw [mem_tiesOf]
  simp
theorem sub_in {n : Nat} {t : List (Nat × Nat)} (h : t.Sublist (pairsN n)) : InN n t := fun e he => by
  have := mem_pairsN.mp (h.subset he)
  omega
def keyN (n : Nat) (t : List (Nat × Nat)) : Int × Int := (((ringN n t).getD 0 : Nat), (widthN n t).getD (-1))
abbrev Cn := List ((Int × Int) × Int)
def getC (C : Cn) (k : Int × Int) : Option Int := (C.find? fun e => decide (e.1 = k)).map (·.2)
def setC (C : Cn) (k : Int × Int) (v : Int) : Cn := if (C.any fun e => decide (e.1 = k)) = true then C.map (fun e => if e.1 = k then (e.1, v) else e) else C ++ [(k, v)]
def incC (C : Cn) (k : Int × Int) : Cn := setC C k ((getC C k).getD 0 + 1)
def countsOf (n : Nat) (ts : List (List (Nat × Nat))) : Cn := ts.foldl (fun C t => incC C (keyN n t)) []
def finC (C : Cn) : List (Int × Int × Int) := (sortP (C.map (·.1))).map fun k => (k.1, k.2, (getC C k).getD 0)
def looked (n : Nat) : List (Int × Int × Int) := finC (countsOf n (allTies n))
theorem setC_len (C : Cn) (k : Int × Int) (v : Int) : (setC C k v).length ≤ C.length + 1 := by
  unfold setC; split <;> simp
theorem mem_setC {C : Cn} {k k' : Int × Int} {v : Int} : k' ∈ (setC C k v).map (·.1) ↔ k' ∈ C.map (·.1) ∨ k' = k := by
  unfold setC
  split
  · rename_i h
    obtain ⟨e, he, h⟩ := List.any_eq_true.mp h
    have h : e.1 = k := by simpa using h
    have e0 : (C.map (fun e => if e.1 = k then (e.1, v) else e)).map (·.1) = C.map (·.1) := by
      rw [List.map_map]; apply List.map_congr_left
      intro a _
      simp only [Function.comp]; split <;> rfl
    rw [e0]
    constructor
    · exact .inl
    · rintro (h' | rfl)
      · exact h'
      · exact List.mem_map.mpr ⟨e, he, h⟩
  · simp
theorem mem_insP {x y : Int × Int} : ∀ {xs : List (Int × Int)}, y ∈ insP x xs ↔ y = x ∨ y ∈ xs
  | [] => by simp [insP]
  | z :: zs => by
    unfold insP
    split
    · simp
    · rw [List.mem_cons, mem_insP, List.mem_cons]; constructor <;> (rintro (h | h | h) <;> simp [h])
theorem mem_sortP {y : Int × Int} : ∀ {xs : List (Int × Int)}, y ∈ sortP xs ↔ y ∈ xs
  | [] => Iff.rfl
  | x :: xs => by rw [sortP, mem_insP, mem_sortP, List.mem_cons]
theorem insP_len (x : Int × Int) : ∀ xs : List (Int × Int), (insP x xs).length = xs.length + 1
  | [] => rfl
  | z :: zs => by unfold insP; split <;> simp [insP_len x zs]
theorem sortP_len : ∀ xs : List (Int × Int), (sortP xs).length = xs.length
  | [] => rfl
  | x :: xs => by rw [sortP, insP_len, sortP_len xs]; rfl
theorem getC_some {C : Cn} {k : Int × Int} (h : k ∈ C.map (·.1)) : ∃ v, getC C k = some v := by
  obtain ⟨e, he, rfl⟩ := List.mem_map.mp h
  unfold getC
  cases h : C.find? (fun e' => decide (e'.1 = e.1)) with
  | some x => exact ⟨_, rfl⟩
  | none =>
    have := List.find?_eq_none.mp h e he
    simp at this
theorem mem_countsOf {n : Nat} : ∀ (ts : List (List (Nat × Nat))) (C : Cn) (k : Int × Int), k ∈ (ts.foldl (fun C t => incC C (keyN n t)) C).map (·.1) ↔ k ∈ C.map (·.1) ∨ ∃ t ∈ ts, keyN n t = k
  | [], C, k => by simp
  | t :: ts, C, k => by
    rw [List.foldl_cons, mem_countsOf ts, incC, mem_setC]
    constructor
    · rintro ((h | h) | ⟨t', h1, h2⟩)
      · exact .inl h
      · exact .inr ⟨t, List.mem_cons_self .., h.symm⟩
      · exact .inr ⟨t', List.mem_cons_of_mem _ h1, h2⟩
    · rintro (h | ⟨t', h1, h2⟩)
      · exact .inl (.inl h)
      · rcases List.mem_cons.mp h1 with rfl | h1
        · exact .inl (.inr h2.symm)
        · exact .inr ⟨t', h1, h2⟩
theorem countsOf_len {n : Nat} : ∀ (ts : List (List (Nat × Nat))) (C : Cn), (ts.foldl (fun C t => incC C (keyN n t)) C).length ≤ C.length + ts.length
  | [], C => by simp
  | t :: ts, C => by
    rw [List.foldl_cons]
    have := countsOf_len (n := n) ts (incC C (keyN n t))
    have := setC_len C (keyN n t) ((getC C (keyN n t)).getD 0 + 1)
    unfold incC at *
    simp at *
    omega
/-- the key of each web stands in what is told -/
theorem key_looked {n : Nat} {t : List (Nat × Nat)} (h : t.Sublist (pairsN n)) : ∃ v, ((keyN n t).1, (keyN n t).2, v) ∈ looked n := by
  have h1 : keyN n t ∈ (countsOf n (allTies n)).map (·.1) := (mem_countsOf _ _ _).mpr (.inr ⟨t, mem_allTies.mpr h, rfl⟩)
  exact ⟨_, List.mem_map.mpr ⟨keyN n t, mem_sortP.mpr h1, rfl⟩⟩
/-! ### as data -/
def kvT (C : Cn) : List (List Key × D) := C.map fun e => ([Sum.inl e.1.1, Sum.inl e.1.2], .int e.2)
def w3 (t : Int × Int × Int) : D := .tuple [.int t.1, .int t.2.1, .int t.2.2]
theorem keyT_eq {a b c d : Int} : (([Sum.inl a, Sum.inl b] : List Key) = [Sum.inl c, Sum.inl d]) ↔ ((a, b) = (c, d)) := by simp
theorem valD_kvT {C : Cn} {a b : Int} : valD (kvT C) [Sum.inl a, Sum.inl b] = (getC C (a, b)).map .int := by
  unfold valD kvT getC
  induction C with
  | nil => rfl
  | cons e C ih =>
    rw [List.map_cons, List.find?_cons, List.find?_cons]
    have : decide (([Sum.inl e.1.1, Sum.inl e.1.2] : List Key) = [Sum.inl a, Sum.inl b]) = decide (e.1 = (a, b)) := by
      rw [decide_eq_decide, keyT_eq]
    simp only [this]
    cases h : decide (e.1 = (a, b)) with
    | true => rfl
    | false => exact ih
theorem toKeys2 {a b : Int} : toKeys [.int a, .int b] = some [Sum.inl a, Sum.inl b] := rfl
theorem w_get2T {b : Bool} {C : Cn} {x y v : Int} : meF .get2 (.dT b (kvT C)) [.dat (.tuple [.int x, .int y]), .dat (.int v)] = some (.dT b (kvT C), .dat (.int ((getC C (x, y)).getD v))) := by
  simp only [meF, toKeys2, Option.map_some, valD_kvT]
  cases getC C (x, y) <;> rfl
theorem putD_kvT {C : Cn} {a b v : Int} : putD (kvT C) [Sum.inl a, Sum.inl b] (.int v) = kvT (setC C (a, b) v) := by
  unfold putD setC kvT
  have h : ∀ e : (Int × Int) × Int, decide (([Sum.inl e.1.1, Sum.inl e.1.2] : List Key) = [Sum.inl a, Sum.inl b]) = decide (e.1 = (a, b)) := fun e => by
    rw [decide_eq_decide, keyT_eq]
  have h1 : (C.map fun e => (([Sum.inl e.1.1, Sum.inl e.1.2] : List Key), PyData.int e.2)).any (fun kv => decide (kv.1 = [Sum.inl a, Sum.inl b])) = C.any fun e => decide (e.1 = (a, b)) := by
    rw [List.any_map]; congr 1; funext e; exact h e
  rw [h1]
  split
  · rw [List.map_map, List.map_map]
    apply List.map_congr_left
    intro e _
    simp only [Function.comp]
    by_cases he : e.1 = (a, b)
    · rw [if_pos (keyT_eq.mpr he), if_pos he]
    · rw [if_neg (fun h' => he (keyT_eq.mp h')), if_neg he]
  · simp
theorem w_storeT {C : Cn} {x y v : Int} (h : C.length < 1000000) : storeT (.dT false (kvT C)) (.tuple [.int x, .int y]) (.dat (.int v)) = some (.dT false (kvT (setC C (x, y) v))) := by
  simp only [storeT, toKeys2, Option.bind_some]
  rw [if_pos (by simpa [kvT] using h), putD_kvT]
theorem itemKT {b : Bool} {C : Cn} {x y v : Int} (h : getC C (x, y) = some v) : itemT (.dT b (kvT C)) (.tuple [.int x, .int y]) = some (.dat (.int v), none) := by
  simp only [itemT, toKeys2, Option.bind_some, valD_kvT, h, Option.map_some]
theorem pairsOf_map (ps : List (Int × Int)) : pairsOf (ps.map dP) = some ps := by
  induction ps with
  | nil => rfl
  | cons p ps ih => rw [List.map_cons, pairsOf, ih]; rfl
theorem sortD_map (ps : List (Int × Int)) : sortD (ps.map dP) = some ((sortP ps).map dP) := by
  unfold sortD
  cases ps with
  | nil => rfl
  | cons p ps =>
    rw [show intsOf ((p :: ps).map dP) = none from rfl, pairsOf_map]
theorem w_sortedT {b : Bool} {C : Cn} : biF .sorted [.dT b (kvT C)] = some (LE dP (sortP (C.map (·.1)))) := by
  show (sortD ((kvT C).map fun kv => .tuple (kv.1.map ofKey))).map freshL = _
  have : (kvT C).map (fun kv => PyData.tuple (kv.1.map ofKey)) = (C.map (·.1)).map dP := by
    simp [kvT, dP, ofKey, Function.comp_def]
  rw [this, sortD_map]
  simp [freshL, LE]
theorem w_w3i2 {t : Int × Int × Int} : itemT (.dat (w3 t)) (.int 2) = some (.dat (.int t.2.2), none) := by rw [w3, w_item_t, w_at_2]; rfl
theorem w_w3p0 {t : Int × Int × Int} : getP (.dat (w3 t)) [0] = some (.dat (.int t.1)) := by rw [w3, w_getP_tup0, w_getP_nil]
theorem w_w3p1 {t : Int × Int × Int} : getP (.dat (w3 t)) [1] = some (.dat (.int t.2.1)) := by rw [w3, w_getP_tup1, w_getP_nil]
theorem Dep.w3 : Dep 1 Eng.w3 := ⟨fun a => by simp [Eng.w3, PyData.canLay0, PyData.canLayAll0, PyData.depth, PyData.depthAll]⟩
theorem good_w3 (t : Int × Int × Int) : GoodD 1 (w3 t) := .tup (by simp) (by
  intro d hd
  simp at hd
  rcases hd with rfl | rfl | rfl <;> exact .int _)
theorem good_TE {α : Type} {f : α → D} {m : Nat} (h : ∀ a, GoodD m (f a)) {xs : List α} (hl : xs.length ≤ 1000000) : GoodD (m + 1) (TE f xs) := .tup (by simpa using hl) (by
  intro d hd
  obtain ⟨a, _, rfl⟩ := List.mem_map.mp hd
  exact h a)
theorem good_oN {m : Nat} : ∀ o, GoodD m (oE dN o)
  | none => .non
  | some a => .int _
theorem good_oI {m : Nat} : ∀ o, GoodD m (oE .int o)
  | none => .non
  | some a => .int _
/-- rings have points, widths are not below 0 -/
theorem ringAt_pos {n : Nat} {ties : List (Nat × Nat)} {e : Nat × Nat} {r : Nat} (h : ringAt n ties e = some r) : 0 < r := by
  unfold ringAt at h
  split at h
  · cases h
  · cases h; omega
theorem ringN_pos {n : Nat} {ties : List (Nat × Nat)} {r : Nat} (h : ringN n ties = some r) : 0 < r := by
  have := ringN_min n ties
  rw [h] at this
  obtain ⟨⟨e, _, h1⟩, _⟩ := this
  exact ringAt_pos h1
theorem widthN_pos {n : Nat} {ties : List (Nat × Nat)} (hb : InN n ties) {w : Int} (h : widthN n ties = some w) : 0 ≤ w := by
  unfold widthN at h
  split at h
  · cases h
  · rename_i h0
    have hne : ((List.range n).map fun p => (maxI (rowOf n ties p)).getD 0) ≠ [] := fun e => by rw [e] at h; cases h
    have hn : 0 < n := by
      cases n with
      | zero => simp at hne
      | succ n => omega
    obtain ⟨m, e, h1, h2⟩ := maxI_mem hne
    rw [h] at e; cases e
    have hr : rowOf n ties 0 ≠ [] := fun e => by
      have := (row_ok hb hn).len
      rw [e] at this; simp at this; omega
    obtain ⟨m, e, h3, h4⟩ := maxI_mem hr
    have := h2 _ (List.mem_map.mpr ⟨0, List.mem_range.mpr hn, rfl⟩)
    rw [e] at this
    simp at this
    have h5 := (row_ok hb hn).lt h3
    have : m ≠ -1 := fun e => h0 (e ▸ h3)
    omega
end Eng

/-! ### Loop -/
namespace Eng
/-- places around a ring: the next ones by these steps -/
def circ (n : Nat) (steps : List Nat) : List (List Nat) := (List.range n).map fun x => steps.map fun s => (x + s) % n
theorem circ_len (n : Nat) (steps : List Nat) : (circ n steps).length = n := by simp [circ]
theorem circ_row {n : Nat} {steps : List Nat} {x : Nat} (hx : x < n) : (circ n steps).getD x [] = steps.map fun s => (x + s) % n := by
  unfold circ
  rw [List.getD_eq_getElem?_getD, List.getElem?_map, List.getElem?_range hx]; rfl
theorem circ_row' {n : Nat} {steps : List Nat} {x : Nat} (hx : ¬ x < n) : (circ n steps).getD x [] = [] := by
  unfold circ
  rw [List.getD_eq_getElem?_getD, List.getElem?_eq_none (by simp; omega)]; rfl
theorem circ_lt {n : Nat} {steps : List Nat} (h0 : 0 < n) : ∀ y, ∀ x ∈ (circ n steps).getD y [], x < n := fun y x h => by
  by_cases hy : y < n
  · rw [circ_row hy] at h
    obtain ⟨s, _, rfl⟩ := List.mem_map.mp h
    exact Nat.mod_lt _ h0
  · rw [circ_row' hy] at h; cases h
abbrev CA (n : Nat) (steps : List Nat) := Adj (circ n steps) fun _ _ => true
theorem CA_iff {n : Nat} {steps : List Nat} {y x : Nat} : CA n steps y x ↔ y < n ∧ ∃ s ∈ steps, (y + s) % n = x := by
  unfold CA Adj
  by_cases hy : y < n
  · rw [circ_row hy, List.mem_map]; simp [hy]
  · rw [circ_row' hy]; simp [hy]
/-! ### by bits -/
def growM (n full m : Nat) (steps : List Nat) : Nat := Nat.land (steps.foldl (fun acc s => Nat.lor acc (Nat.lor (Nat.shiftLeft m s) (Nat.shiftRight m (n - s)))) m) full
def maskM (n : Nat) (steps : List Nat) : Nat → Nat
  | 0 => 1
  | k + 1 => growM n (2 ^ n - 1) (maskM n steps k) steps
theorem foldl_lor (f : Nat → Nat) (x : Nat) : ∀ (ss : List Nat) (a : Nat), (ss.foldl (fun acc s => Nat.lor acc (f s)) a).testBit x = (a.testBit x || ss.any fun s => (f s).testBit x)
  | [], a => by simp
  | s :: ss, a => by
    rw [List.foldl_cons, foldl_lor f x ss, List.any_cons, ← Bool.or_assoc]
    congr 1
    exact Nat.testBit_or a (f s) x
theorem growM_bit {n m x : Nat} {steps : List Nat} (hm : m < 2 ^ n) (hs : ∀ s ∈ steps, 0 < s ∧ s < n) : (growM n (2 ^ n - 1) m steps).testBit x = true ↔ x < n ∧ (m.testBit x = true ∨ ∃ y < n, m.testBit y = true ∧ ∃ s ∈ steps, (y + s) % n = x) := by
  unfold growM
  have e1 : ∀ a b : Nat, (Nat.land a b).testBit x = (a.testBit x && b.testBit x) := fun a b => Nat.testBit_and a b x
  rw [e1, foldl_lor, Nat.testBit_two_pow_sub_one]
  have hlt : ∀ y, m.testBit y = true → y < n := fun y h => by
    by_cases hy : y < n
    · exact hy
    · rw [Nat.testBit_lt_two_pow (Nat.lt_of_lt_of_le hm (Nat.pow_le_pow_right (by decide) (by omega)))] at h
      cases h
  simp only [Bool.and_eq_true, Bool.or_eq_true, List.any_eq_true, decide_eq_true_eq]
  constructor
  · rintro ⟨h | ⟨s, hs', h⟩, hx⟩
    · exact ⟨hx, .inl h⟩
    · refine ⟨hx, .inr ?_⟩
      have e2 : (Nat.lor (Nat.shiftLeft m s) (Nat.shiftRight m (n - s))).testBit x = ((m <<< s).testBit x || (m >>> (n - s)).testBit x) := Nat.testBit_or _ _ x
      rw [e2, Nat.testBit_shiftLeft, Nat.testBit_shiftRight] at h
      obtain ⟨h0, h1⟩ := hs s hs'
      simp only [Bool.or_eq_true, Bool.and_eq_true, decide_eq_true_eq] at h
      rcases h with ⟨h2, h3⟩ | h3
      · exact ⟨x - s, hlt _ h3, h3, s, hs', by rw [Nat.sub_add_cancel h2, Nat.mod_eq_of_lt hx]⟩
      · have := hlt _ h3
        refine ⟨n - s + x, this, h3, s, hs', ?_⟩
        rw [show n - s + x + s = x + n by omega, Nat.add_mod_right, Nat.mod_eq_of_lt hx]
  · rintro ⟨hx, h⟩
    refine ⟨?_, hx⟩
    rcases h with h | ⟨y, hy, h, s, hs', e⟩
    · exact .inl h
    · refine .inr ⟨s, hs', ?_⟩
      have e2 : (Nat.lor (Nat.shiftLeft m s) (Nat.shiftRight m (n - s))).testBit x = ((m <<< s).testBit x || (m >>> (n - s)).testBit x) := Nat.testBit_or _ _ x
      rw [e2, Nat.testBit_shiftLeft, Nat.testBit_shiftRight]
      obtain ⟨h0, h1⟩ := hs s hs'
      simp only [Bool.or_eq_true, Bool.and_eq_true, decide_eq_true_eq]
      by_cases hc : y + s < n
      · rw [Nat.mod_eq_of_lt hc] at e
        subst e
        exact .inl ⟨by omega, by rw [Nat.add_sub_cancel]; exact h⟩
      · have : (y + s) % n = y + s - n := by rw [Nat.mod_eq_sub_mod (by omega), Nat.mod_eq_of_lt (by omega)]
        rw [this] at e
        subst e
        right
        rw [show n - s + (y + s - n) = y by omega]
        exact h
theorem growM_lt (n m : Nat) (steps : List Nat) : growM n (2 ^ n - 1) m steps < 2 ^ n := by
  unfold growM
  have : Nat.land (steps.foldl (fun acc s => Nat.lor acc (Nat.lor (Nat.shiftLeft m s) (Nat.shiftRight m (n - s)))) m) (2 ^ n - 1) ≤ 2 ^ n - 1 := Nat.and_le_right
  have := Nat.two_pow_pos n
  omega
theorem maskM_lt {n : Nat} (h0 : 0 < n) (steps : List Nat) : ∀ k, maskM n steps k < 2 ^ n
  | 0 => Nat.one_lt_two_pow (by omega)
  | k + 1 => growM_lt _ _ _
theorem maskM_bit {n : Nat} (h0 : 0 < n) {steps : List Nat} (hs : ∀ s ∈ steps, 0 < s ∧ s < n) : ∀ (k x : Nat), (maskM n steps k).testBit x = true ↔ x < n ∧ Rch (CA n steps) 0 k x
  | 0, x => by
    show Nat.testBit 1 x = true ↔ x < n ∧ x = 0
    rw [Nat.testBit_one_eq_true_iff_self_eq_zero]
    constructor
    · rintro rfl; exact ⟨h0, rfl⟩
    · exact fun h => h.2
  | k + 1, x => by
    show (growM n (2 ^ n - 1) (maskM n steps k) steps).testBit x = true ↔ x < n ∧ (Rch (CA n steps) 0 k x ∨ ∃ y, Rch (CA n steps) 0 k y ∧ CA n steps y x)
    rw [growM_bit (maskM_lt h0 steps k) hs]
    constructor
    · rintro ⟨hx, h | ⟨y, hy, h, s, hs', e⟩⟩
      · exact ⟨hx, .inl ((maskM_bit h0 hs k x).mp h).2⟩
      · exact ⟨hx, .inr ⟨y, ((maskM_bit h0 hs k y).mp h).2, CA_iff.mpr ⟨hy, s, hs', e⟩⟩⟩
    · rintro ⟨hx, h | ⟨y, h, h'⟩⟩
      · exact ⟨hx, .inl ((maskM_bit h0 hs k x).mpr ⟨hx, h⟩)⟩
      · obtain ⟨hy, s, hs', e⟩ := CA_iff.mp h'
        exact ⟨hx, .inr ⟨y, hy, (maskM_bit h0 hs k y).mpr ⟨hy, h⟩, s, hs', e⟩⟩
/-- all are reached -/
def AllR (n : Nat) (steps : List Nat) (k : Nat) : Prop := ∀ x < n, Rch (CA n steps) 0 k x
theorem full_iff {n : Nat} (h0 : 0 < n) {steps : List Nat} (hs : ∀ s ∈ steps, 0 < s ∧ s < n) (k : Nat) : maskM n steps k = 2 ^ n - 1 ↔ AllR n steps k := by
  constructor
  · intro h x hx
    refine ((maskM_bit h0 hs k x).mp ?_).2
    rw [h, Nat.testBit_two_pow_sub_one]; simpa using hx
  · intro h
    apply Nat.eq_of_testBit_eq
    intro x
    rw [Nat.testBit_two_pow_sub_one, Bool.eq_iff_iff, maskM_bit h0 hs, decide_eq_true_eq]
    exact ⟨fun h => h.1, fun hx => ⟨hx, h x hx⟩⟩
def eccGo (n full : Nat) (steps : List Nat) : Nat → Nat → Nat → Option Nat
  | 0, _, _ => none
  | f + 1, k, m => bif Nat.beq m full then some k else bif Nat.beq (growM n full m steps) m then none else eccGo n full steps f (k + 1) (growM n full m steps)
/-- how far the farthest place is, none if not all are reached -/
def ecc (n : Nat) (steps : List Nat) : Option Nat := eccGo n (2 ^ n - 1) steps (n + 1) 0 1
/-- what a width says -/
structure EccQ (n : Nat) (steps : List Nat) (k : Nat) : Prop where
  all : AllR n steps k
  least : ∀ j < k, ¬ AllR n steps j
theorem EccQ.uniq {n : Nat} {steps : List Nat} {i j : Nat} (h : EccQ n steps i) (h' : EccQ n steps j) : i = j := by
  rcases Nat.lt_trichotomy i j with l | l | l
  · exact absurd h.all (h'.least i l)
  · exact l
  · exact absurd h'.all (h.least j l)
theorem mask_stuck {n : Nat} {steps : List Nat} {k : Nat} (h : maskM n steps (k + 1) = maskM n steps k) : ∀ j ≥ k, maskM n steps j = maskM n steps k := fun j hj => by
  induction j with
  | zero => have : k = 0 := by omega
            subst this; rfl
  | succ j ih =>
    by_cases e : k = j + 1
    · subst e; rfl
    · have e1 : maskM n steps (j + 1) = growM n (2 ^ n - 1) (maskM n steps j) steps := rfl
      rw [e1, ih (by omega)]
      exact h
/-- how many bits are on -/
def popN (n m : Nat) : Nat := (List.range n).countP fun x => m.testBit x
theorem eccGo_some {n : Nat} (h0 : 0 < n) {steps : List Nat} (hs : ∀ s ∈ steps, 0 < s ∧ s < n) : ∀ (f k e : Nat), (∀ j < k, ¬ AllR n steps j) → eccGo n (2 ^ n - 1) steps f k (maskM n steps k) = some e → EccQ n steps e
  | 0, k, e, _, h => by cases h
  | f + 1, k, e, hl, h => by
    unfold eccGo at h
    cases h1 : Nat.beq (maskM n steps k) (2 ^ n - 1) with
    | true =>
      rw [h1] at h
      cases h
      exact ⟨(full_iff h0 hs k).mp (Nat.eq_of_beq_eq_true h1), hl⟩
    | false =>
      rw [h1] at h
      simp only [cond_false] at h
      have h2 : ¬ AllR n steps k := fun z => by
        have := (full_iff h0 hs k).mpr z
        rw [this] at h1
        rw [Nat.beq_refl] at h1; cases h1
      cases h3 : Nat.beq (growM n (2 ^ n - 1) (maskM n steps k) steps) (maskM n steps k) with
      | true => rw [h3] at h; cases h
      | false =>
        rw [h3] at h
        simp only [cond_false] at h
        exact eccGo_some h0 hs f (k + 1) e (fun j hj => by
          by_cases e : j = k
          · subst e; exact h2
          · exact hl j (by omega)) h
theorem ecc_some {n : Nat} (h0 : 0 < n) {steps : List Nat} (hs : ∀ s ∈ steps, 0 < s ∧ s < n) {e : Nat} (h : ecc n steps = some e) : EccQ n steps e :=
  eccGo_some h0 hs (n + 1) 0 e (fun j hj => by omega) h
theorem eccGo_none {n : Nat} (h0 : 0 < n) {steps : List Nat} (hs : ∀ s ∈ steps, 0 < s ∧ s < n) : ∀ (f k : Nat), n < popN n (maskM n steps k) + f → (∀ j < k, ¬ AllR n steps j) → eccGo n (2 ^ n - 1) steps f k (maskM n steps k) = none → ∀ j, ¬ AllR n steps j
  | 0, k, hf, _, _ => by
    have : popN n (maskM n steps k) ≤ n := by
      unfold popN
      have := List.countP_le_length (p := fun x => (maskM n steps k).testBit x) (l := List.range n)
      simpa using this
    omega
  | f + 1, k, hf, hl, h => by
    unfold eccGo at h
    cases h1 : Nat.beq (maskM n steps k) (2 ^ n - 1) with
    | true => rw [h1] at h; cases h
    | false =>
      rw [h1] at h
      simp only [cond_false] at h
      have h2 : ¬ AllR n steps k := fun z => by
        have := (full_iff h0 hs k).mpr z
        rw [this] at h1
        rw [Nat.beq_refl] at h1; cases h1
      cases h3 : Nat.beq (growM n (2 ^ n - 1) (maskM n steps k) steps) (maskM n steps k) with
      | true =>
        have h4 : maskM n steps (k + 1) = maskM n steps k := Nat.eq_of_beq_eq_true h3
        intro j hj
        by_cases hjk : j ≤ k
        · exact h2 (fun x hx => (hj x hx).mono hjk)
        · have := mask_stuck h4 j (by omega)
          have h5 := (full_iff h0 hs j).mpr hj
          rw [this] at h5
          exact h2 ((full_iff h0 hs k).mp h5)
      | false =>
        rw [h3] at h
        simp only [cond_false] at h
        refine eccGo_none h0 hs f (k + 1) ?_ (fun j hj => by
          by_cases e : j = k
          · subst e; exact h2
          · exact hl j (by omega)) h
        have sub : ∀ x, (maskM n steps k).testBit x = true → (maskM n steps (k + 1)).testBit x = true := fun x hx => by
          have := (maskM_bit h0 hs k x).mp hx
          exact (maskM_bit h0 hs (k + 1) x).mpr ⟨this.1, .inl this.2⟩
        have ne : maskM n steps (k + 1) ≠ maskM n steps k := fun e => by
          have e : growM n (2 ^ n - 1) (maskM n steps k) steps = maskM n steps k := e
          rw [e, Nat.beq_refl] at h3; cases h3
        have : ∃ x < n, (maskM n steps (k + 1)).testBit x = true ∧ (maskM n steps k).testBit x = false := Classical.byContradiction fun hc => ne (by
          apply Nat.eq_of_testBit_eq
          intro x
          cases h4 : (maskM n steps k).testBit x with
          | true => exact sub x h4
          | false =>
            cases h5 : (maskM n steps (k + 1)).testBit x with
            | false => rfl
            | true => exact absurd ⟨x, ((maskM_bit h0 hs (k + 1) x).mp h5).1, h5, h4⟩ hc)
        obtain ⟨x, hx, h5, h6⟩ := this
        have : popN n (maskM n steps k) < popN n (maskM n steps (k + 1)) := by
          unfold popN
          have hle : ∀ l : List Nat, l.countP (fun x => (maskM n steps k).testBit x) ≤ l.countP (fun x => (maskM n steps (k + 1)).testBit x) := fun l => List.countP_mono_left fun a _ h => sub a h
          obtain ⟨a, b, e⟩ := List.append_of_mem (List.mem_range.mpr hx)
          rw [e, List.countP_append, List.countP_append, List.countP_cons, List.countP_cons, h5, h6]
          have := hle a
          have := hle b
          simp
          omega
        omega
theorem ecc_none {n : Nat} (h0 : 0 < n) {steps : List Nat} (hs : ∀ s ∈ steps, 0 < s ∧ s < n) (h : ecc n steps = none) : ∀ j, ¬ AllR n steps j := by
  refine eccGo_none h0 hs (n + 1) 0 ?_ (fun j hj => by omega) h
  omega
/-! ### two steps -/
def both (n a b : Nat) : List Nat := [a, b, n - a, n - b]
def okAB (n lo1 lo2 a b : Nat) : Bool := match ecc n [a, b] with
  | none => !Nat.beq (Nat.gcd n (Nat.gcd a b)) 1
  | some e => Nat.beq (Nat.gcd n (Nat.gcd a b)) 1 && Nat.ble lo1 e && (match ecc n (both n a b) with
    | none => false
    | some e' => Nat.ble lo2 e')
def okN (n lo1 lo2 : Nat) : Bool := (List.range (n - 1)).all fun a => (List.range (n - 1 - a)).all fun d => okAB n lo1 lo2 (a + 1) (a + 1 + d)
/-! ### a list that holds None or a number -/
open PySem L2 in
def nE (x : Int) : D := if x < 0 then .none else .int x
theorem nE_pos {x : Int} (h : ¬ x < 0) : nE x = .int x := by unfold nE; rw [if_neg h]
theorem w_isN_nE {x : Int} : isNone (.dat (nE x)) = decide (x < 0) := by
  unfold nE
  split <;> simp_all [isNone]
theorem w_repNon {k : Int} (h : 0 ≤ k) (h' : k ≤ 1000000) : binD .mul (.list [.none]) (.int k) = some (LE nE (List.replicate k.toNat (-1))) := by
  rw [rep1 h h', show (PySem.PyData.none) = nE (-1) from rfl, LE_rep (f := nE)]
theorem w_store_nE {xs : List Int} {k v : Int} (h0 : 0 ≤ k) (h : k < xs.length) (hv : 0 ≤ v) : storeT (LE nE xs) (.int k) (.dat (.int v)) = some (LE nE (xs.set k.toNat v)) := by
  rw [← nE_pos (show ¬ v < 0 by omega)]
  exact w_store_LE h0 h
theorem getD_mid {α : Type} {a b : List α} {x d : α} {n : Nat} (h : n = a.length) : (a ++ x :: b).getD n d = x := by
  subst h
  rw [List.getD_eq_getElem?_getD, List.getElem?_append_right (Nat.le_refl _)]; simp
theorem outs_circ {n : Nat} {steps : List Nat} {x : Nat} (hx : x < n) : outs (circ n steps) [x] = steps.map fun s => (x, (x + s) % n) := by
  simp only [outs, List.flatMap_cons, List.flatMap_nil, List.append_nil]
  rw [circ_row hx, List.map_map]; rfl
theorem outs_app {near : List (List Nat)} {a b : List Nat} : outs near (a ++ b) = outs near a ++ outs near b := by simp [outs]
theorem outs_one {near : List (List Nat)} {x : Nat} : outs near [x] = (near.getD x []).map fun z => (x, z) := by simp [outs]
/-- the last level that has a point -/
theorem ecc_last {n : Nat} (h0 : 0 < n) {steps : List Nat} {e k : Nat} (he : EccQ n steps e) {z : Nat} (hz : Lev (CA n steps) 0 k z) (hn : ∀ x, ¬ Lev (CA n steps) 0 (k + 1) x) : e = k := by
  have hzn : z < n := hz.1.lt h0 (fun y x h => circ_lt h0 y x h.1)
  refine he.uniq ⟨fun x hx => ?_, fun j hj h => hz.2 j hj (h z hzn)⟩
  obtain ⟨j, _, l⟩ := (he.all x hx).lev
  by_cases hj : j ≤ k
  · exact l.1.mono hj
  · exact absurd l (lev_none hn j (by omega) x)
/-- the width as the law tells it -/
def eccI (n : Nat) (steps : List Nat) : Int := match ecc n steps with
  | some e => (e : Int)
  | none => -1
theorem negs_pos {F : List Int} (h : negs F ≠ 0) : ∃ x < F.length, F.getD x 0 < 0 := Classical.byContradiction fun hc => h (by
  unfold negs
  rw [List.countP_eq_zero]
  intro a ha
  obtain ⟨x, hx, rfl⟩ := List.getElem_of_mem ha
  intro h2
  refine hc ⟨x, hx, ?_⟩
  rw [List.getD_eq_getElem?_getD, List.getElem?_eq_getElem hx]
  simpa using h2)
theorem eccI_stop {n : Nat} (h0 : 0 < n) {steps : List Nat} (hs : ∀ s ∈ steps, 0 < s ∧ s < n) {k : Nat} {F : List Int} {M : List Nat} (hB : BsQ (CA n steps) 0 n k F M) (hne : M ≠ []) (hno : ∀ x, ¬ Lev (CA n steps) 0 (k + 1) x) : eccI n steps = if negs F = 0 then (k : Int) else -1 := by
  obtain ⟨z, hz⟩ := List.exists_mem_of_ne_nil M hne
  have hz := (hB.mem z).mp hz
  split
  · rename_i h
    have hA : AllR n steps k := fun x hx => by
      have := negs_zero h x (by rw [hB.len]; exact hx)
      exact Classical.byContradiction fun h2 => by have := (hB.neg' x hx).mpr h2; omega
    unfold eccI
    cases he : ecc n steps with
    | none => exact absurd hA (ecc_none h0 hs he k)
    | some e => rw [ecc_last h0 (ecc_some h0 hs he) hz.2 hno]
  · rename_i h
    obtain ⟨x, hx, h1⟩ := negs_pos h
    rw [hB.len] at hx
    have h2 := (hB.neg' x hx).mp h1
    have h3 : ∀ j, ¬ Rch (CA n steps) 0 j x := fun j hj => by
      obtain ⟨i, _, l⟩ := hj.lev
      by_cases hi : i ≤ k
      · exact h2 (l.1.mono hi)
      · exact lev_none hno i (by omega) x l
    unfold eccI
    cases he : ecc n steps with
    | none => rfl
    | some e => exact absurd ((ecc_some h0 hs he).all x hx) (h3 e)
theorem okN_get {n lo1 lo2 : Nat} (h : okN n lo1 lo2 = true) {a b : Nat} (ha : 1 ≤ a) (hab : a ≤ b) (hb : b < n) : okAB n lo1 lo2 a b = true := by
  have h1 := List.all_eq_true.mp h (a - 1) (List.mem_range.mpr (by omega))
  have h2 := List.all_eq_true.mp h1 (b - a) (List.mem_range.mpr (by omega))
  rwa [show a - 1 + 1 = a by omega, show a + (b - a) = b by omega] at h2
/-- the two widths -/
def E1 (n a b : Nat) : Nat := (ecc n [a, b]).getD 0
def E2 (n a b : Nat) : Nat := (ecc n (both n a b)).getD 0
structure ABQ (n lo1 lo2 a b : Nat) : Prop where
  e1 : ecc n [a, b] = some (E1 n a b)
  e2 : ecc n (both n a b) = some (E2 n a b)
  l1 : lo1 ≤ E1 n a b
  l2 : lo2 ≤ E2 n a b
theorem okAB_gcd {n lo1 lo2 a b : Nat} (h : okAB n lo1 lo2 a b = true) (hg : Nat.gcd n (Nat.gcd a b) = 1) : ABQ n lo1 lo2 a b := by
  unfold okAB at h
  cases h1 : ecc n [a, b] with
  | none => rw [h1] at h; simp only [hg] at h; cases h
  | some e =>
    rw [h1] at h
    simp only [Bool.and_eq_true] at h
    cases h2 : ecc n (both n a b) with
    | none => rw [h2] at h; exact absurd h.2 (by simp)
    | some e' =>
      rw [h2] at h
      refine ⟨by simp [E1, h1], by simp [E2, h2], ?_, ?_⟩
      · simp only [E1, h1, Option.getD_some]; exact Nat.le_of_ble_eq_true h.1.2
      · simp only [E2, h2, Option.getD_some]; exact Nat.le_of_ble_eq_true h.2
theorem okAB_some {n lo1 lo2 a b : Nat} (h : okAB n lo1 lo2 a b = true) {e : Nat} (he : ecc n [a, b] = some e) : Nat.gcd n (Nat.gcd a b) = 1 := by
  unfold okAB at h
  rw [he] at h
  simp only [Bool.and_eq_true] at h
  exact Nat.eq_of_beq_eq_true h.1.1
theorem steps2 {n a b : Nat} (ha : 1 ≤ a) (ha' : a < n) (hb : 1 ≤ b) (hb' : b < n) : ∀ s ∈ [a, b], 0 < s ∧ s < n := by
  intro s hs
  simp at hs
  omega
theorem steps4 {n a b : Nat} (ha : 1 ≤ a) (ha' : a < n) (hb : 1 ≤ b) (hb' : b < n) : ∀ s ∈ both n a b, 0 < s ∧ s < n := by
  intro s hs
  simp [both] at hs
  omega
theorem minI_eq {xs : List Int} {lo : Int} (h1 : lo ∈ xs) (h2 : ∀ x ∈ xs, lo ≤ x) : minI xs = some lo := by
  obtain ⟨m, e, h3, h4⟩ := minI_mem (xs := xs) (fun e => by rw [e] at h1; cases h1)
  rw [e]; congr 1
  have := h2 m h3
  have := h4 lo h1
  omega
/-- the pairs of widths as the program finds them -/
def pairsG (n i : Nat) : List (Nat × Nat) := (List.range i).flatMap fun a => ((List.range (n - (a + 1))).filter fun d => decide (Nat.gcd n (Nat.gcd (a + 1) (a + 1 + d)) = 1)).map fun d => (E1 n (a + 1) (a + 1 + d), E2 n (a + 1) (a + 1 + d))
def pL (n a d : Nat) : Int × Int := (eccI n [a + 1, a + 1 + d], eccI n (both n (a + 1) (a + 1 + d)))
def pairsL (n i : Nat) : List (Int × Int) := (List.range i).flatMap fun a => (List.range (n - (a + 1))).map fun d => pL n a d
theorem pairsG_succ (n i : Nat) : pairsG n (i + 1) = pairsG n i ++ ((List.range (n - (i + 1))).filter fun d => decide (Nat.gcd n (Nat.gcd (i + 1) (i + 1 + d)) = 1)).map fun d => (E1 n (i + 1) (i + 1 + d), E2 n (i + 1) (i + 1 + d)) := by
  simp [pairsG, List.range_succ]
theorem pairsL_succ (n i : Nat) : pairsL n (i + 1) = pairsL n i ++ (List.range (n - (i + 1))).map fun d => pL n i d := by
  simp [pairsL, List.range_succ]
theorem pairsG_len (n : Nat) : ∀ i, (pairsG n i).length ≤ i * n
  | 0 => by simp [pairsG]
  | i + 1 => by
    rw [pairsG_succ, List.length_append, List.length_map]
    have := pairsG_len n i
    have h2 := List.length_filter_le (fun d => decide (Nat.gcd n (Nat.gcd (i + 1) (i + 1 + d)) = 1)) (List.range (n - (i + 1)))
    rw [List.length_range] at h2
    rw [Nat.add_mul]; omega
theorem pairsL_len (n : Nat) : ∀ i, (pairsL n i).length ≤ i * n
  | 0 => by simp [pairsL]
  | i + 1 => by
    rw [pairsL_succ, List.length_append, List.length_map, List.length_range]
    have := pairsL_len n i
    rw [Nat.add_mul]; omega
theorem mem_pairsG {n : Nat} {p : Nat × Nat} : p ∈ pairsG n (n - 1) ↔ ∃ a b, 1 ≤ a ∧ a ≤ b ∧ b < n ∧ Nat.gcd n (Nat.gcd a b) = 1 ∧ p = (E1 n a b, E2 n a b) := by
  unfold pairsG
  rw [List.mem_flatMap]
  constructor
  · rintro ⟨a, ha, h⟩
    obtain ⟨d, hd, rfl⟩ := List.mem_map.mp h
    obtain ⟨hd, hg⟩ := List.mem_filter.mp hd
    rw [List.mem_range] at ha hd
    exact ⟨a + 1, a + 1 + d, by omega, by omega, by omega, by simpa using hg, rfl⟩
  · rintro ⟨a, b, h1, h2, h3, h4, rfl⟩
    refine ⟨a - 1, List.mem_range.mpr (by omega), List.mem_map.mpr ⟨b - a, List.mem_filter.mpr ⟨List.mem_range.mpr (by omega), ?_⟩, ?_⟩⟩
    · rw [show a - 1 + 1 = a by omega, show a + (b - a) = b by omega]; simpa using h4
    · rw [show a - 1 + 1 = a by omega, show a + (b - a) = b by omega]
theorem mem_pairsL {n : Nat} {p : Int × Int} : p ∈ pairsL n (n - 1) ↔ ∃ a b, 1 ≤ a ∧ a ≤ b ∧ b < n ∧ p = (eccI n [a, b], eccI n (both n a b)) := by
  unfold pairsL
  rw [List.mem_flatMap]
  constructor
  · rintro ⟨a, ha, h⟩
    obtain ⟨d, hd, rfl⟩ := List.mem_map.mp h
    rw [List.mem_range] at ha hd
    exact ⟨a + 1, a + 1 + d, by omega, by omega, by omega, rfl⟩
  · rintro ⟨a, b, h1, h2, h3, rfl⟩
    refine ⟨a - 1, List.mem_range.mpr (by omega), List.mem_map.mpr ⟨b - a, List.mem_range.mpr (by omega), ?_⟩⟩
    rw [pL, show a - 1 + 1 = a by omega, show a + (b - a) = b by omega]
/-- same steps in another order -/
theorem AllR_perm {n : Nat} {s t : List Nat} (h : ∀ x, x ∈ s ↔ x ∈ t) (k : Nat) : AllR n s k ↔ AllR n t k := by
  have hA : ∀ y x, CA n s y x ↔ CA n t y x := fun y x => by simp only [CA_iff, h]
  have hR : ∀ k x, Rch (CA n s) 0 k x ↔ Rch (CA n t) 0 k x := Rch_congr_start fun y x _ => hA y x
  unfold AllR
  simp only [hR]
theorem ecc_perm {n : Nat} (h0 : 0 < n) {s t : List Nat} (h : ∀ x, x ∈ s ↔ x ∈ t) (hs : ∀ x ∈ s, 0 < x ∧ x < n) : ecc n s = ecc n t := by
  have ht : ∀ x ∈ t, 0 < x ∧ x < n := fun x hx => hs x ((h x).mpr hx)
  cases h1 : ecc n s with
  | none =>
    cases h2 : ecc n t with
    | none => rfl
    | some e => exact absurd ((AllR_perm h e).mpr (ecc_some h0 ht h2).all) (ecc_none h0 hs h1 e)
  | some e =>
    have q := ecc_some h0 hs h1
    cases h2 : ecc n t with
    | none => exact absurd ((AllR_perm h e).mp q.all) (ecc_none h0 ht h2 e)
    | some e' =>
      have q' := ecc_some h0 ht h2
      congr 1
      exact q.uniq ⟨(AllR_perm h e').mpr q'.all, fun j hj hh => q'.least j hj ((AllR_perm h j).mp hh)⟩
end Eng

/-! ### P97 -/
namespace Eng
namespace K97
/-- partners -/
def f0 : Fn :=
  { name := "partners", ps := ["web"], ns := ["web", "found", "i", "j", "point"], refs := [false], body := (.cons (.asg (.nm 1) (.comp (.lst .nil) [4] (.nm 4) (.rng1 (.idx (.pl (.mk 0 .nil)) (.int 0))) .nil))
    (.cons (.forS (.tp (.cons (.nm 2) (.cons (.nm 3) .nil))) (.seq (.idx (.pl (.mk 0 .nil)) (.int 1))) (.cons (.expr (.meth .append (.mk 1 (.cons (.var 2) .nil)) (.cons (.var 3) .nil)))
    (.cons (.expr (.meth .append (.mk 1 (.cons (.var 3) .nil)) (.cons (.var 2) .nil)))
    .nil)))
    (.cons (.ret (.var 1))
    .nil))) }
/-- rows_from -/
def f1 : Fn :=
  { name := "rows_from", ps := ["near", "point"], ns := ["near", "point", "found", "met", "later", "one", "other"], refs := [false, false], body := (.cons (.par 2 3 (.bin .mul (.lst (.cons (.un .neg (.int 1)) .nil)) (.bi .len (.one (.pl (.mk 0 .nil))))) (.lst (.cons (.var 1) .nil)))
    (.cons (.asg (.sub (.mk 2 .nil) (.var 1)) (.int 0))
    (.cons (.whil (.cmp .ne (.two (.pl (.mk 3 .nil)) (.ex (.lst .nil)))) (.cons (.asg (.nm 4) (.lst .nil))
    (.cons (.forS (.nm 5) (.seq (.var 3)) (.cons (.forS (.nm 6) (.seq (.idx (.pl (.mk 0 .nil)) (.var 5))) (.cons (.ife (.cmp .lt (.two (.pl (.mk 2 (.cons (.var 6) .nil))) (.ex (.int 0)))) (.cons (.asg (.sub (.mk 2 .nil) (.var 6)) (.bin .add (.idx (.pl (.mk 2 .nil)) (.var 5)) (.int 1)))
    (.cons (.expr (.meth .append (.mk 4 .nil) (.cons (.var 6) .nil)))
    .nil)) .nil)
    .nil))
    .nil))
    (.cons (.asg (.nm 3) (.var 4))
    .nil))))
    (.cons (.ret (.var 2))
    .nil)))) }
/-- all_rows -/
def f2 : Fn :=
  { name := "all_rows", ps := ["web"], ns := ["web", "near", "found", "point"], refs := [false], body := (.cons (.asg (.nm 1) (.call 0 (.val (.var 0) .nil)))
    (.cons (.asg (.nm 2) (.comp (.call 1 (.val (.var 1) (.val (.var 3) .nil))) [3] (.nm 3) (.rng1 (.idx (.pl (.mk 0 .nil)) (.int 0))) .nil))
    (.cons (.ret (.ife (.cmp .isin (.two (.ex (.un .neg (.int 1))) (.pl (.mk 2 (.cons (.int 0) .nil))))) .non (.var 2)))
    .nil))) }
/-- web_width -/
def f3 : Fn :=
  { name := "web_width", ps := ["web"], ns := ["web", "rows", "row"], refs := [false], body := (.cons (.asg (.nm 1) (.call 2 (.val (.var 0) .nil)))
    (.cons (.ret (.ife (.isN (.pl (.mk 1 .nil))) .non (.bi .max (.one (.ex (.comp (.bi .max (.one (.pl (.mk 2 .nil)))) [2] (.nm 2) (.seq (.var 1)) .nil))))))
    .nil)) }
/-- near_lists -/
def f4 : Fn :=
  { name := "near_lists", ps := ["web"], ns := ["web", "found", "i", "j", "point"], refs := [false], body := (.cons (.asg (.nm 1) (.comp (.lst .nil) [4] (.nm 4) (.rng1 (.idx (.pl (.mk 0 .nil)) (.int 0))) .nil))
    (.cons (.forS (.tp (.cons (.nm 2) (.cons (.nm 3) .nil))) (.seq (.idx (.pl (.mk 0 .nil)) (.int 1))) (.cons (.expr (.meth .append (.mk 1 (.cons (.var 2) .nil)) (.cons (.var 3) .nil)))
    (.cons (.expr (.meth .append (.mk 1 (.cons (.var 3) .nil)) (.cons (.var 2) .nil)))
    .nil)))
    (.cons (.ret (.var 1))
    .nil))) }
/-- heads_behind -/
def f5 : Fn :=
  { name := "heads_behind", ps := ["near", "one", "other"], ns := ["near", "one", "other", "heads", "edge", "later", "point", "after"], refs := [false, false, false], body := (.cons (.par 3 4 (.d1 false (.var 1) .non) (.lst (.cons (.var 1) .nil)))
    (.cons (.whil (.cmp .ne (.two (.pl (.mk 4 .nil)) (.ex (.lst .nil)))) (.cons (.asg (.nm 5) (.lst .nil))
    (.cons (.forS (.nm 6) (.seq (.var 4)) (.cons (.forS (.nm 7) (.seq (.idx (.pl (.mk 0 .nil)) (.var 6))) (.cons (.ife (.and (.cmp .notin (.two (.pl (.mk 7 .nil)) (.pl (.mk 3 .nil)))) (.one (.cmp .ne (.two (.ex (.tup (.cons (.var 6) (.cons (.var 7) .nil)))) (.ex (.tup (.cons (.var 1) (.cons (.var 2) .nil)))))))) (.cons (.asg (.sub (.mk 3 .nil) (.var 7)) (.var 6))
    (.cons (.expr (.meth .append (.mk 5 .nil) (.cons (.var 7) .nil)))
    .nil)) .nil)
    .nil))
    .nil))
    (.cons (.asg (.nm 4) (.var 5))
    .nil))))
    (.cons (.ret (.var 3))
    .nil))) }
/-- way_back -/
def f6 : Fn :=
  { name := "way_back", ps := ["heads", "point"], ns := ["heads", "point", "found"], refs := [false, false], body := (.cons (.asg (.nm 2) (.lst .nil))
    (.cons (.whil (.isnN (.pl (.mk 1 .nil))) (.cons (.expr (.meth .append (.mk 2 .nil) (.cons (.var 1) .nil)))
    (.cons (.asg (.nm 1) (.idx (.pl (.mk 0 .nil)) (.var 1)))
    .nil)))
    (.cons (.ret (.var 2))
    .nil))) }
/-- ring_at_tie -/
def f7 : Fn :=
  { name := "ring_at_tie", ps := ["near", "tie"], ns := ["near", "tie", "heads"], refs := [false, false], body := (.cons (.asg (.nm 2) (.call 5 (.val (.var 0) (.val (.idx (.pl (.mk 1 .nil)) (.int 0)) (.val (.idx (.pl (.mk 1 .nil)) (.int 1)) .nil)))))
    (.cons (.ret (.ife (.cmp .isin (.two (.pl (.mk 1 (.cons (.int 1) .nil))) (.pl (.mk 2 .nil)))) (.bi .tuple (.one (.ex (.call 6 (.val (.var 2) (.val (.idx (.pl (.mk 1 .nil)) (.int 1)) .nil)))))) .non))
    .nil)) }
/-- any_ring -/
def f8 : Fn :=
  { name := "any_ring", ps := ["web"], ns := ["web", "tie", "near", "found", "ring"], refs := [false], body := (.cons (.par 2 3 (.call 4 (.val (.var 0) .nil)) .non)
    (.cons (.forS (.nm 1) (.seq (.idx (.pl (.mk 0 .nil)) (.int 1))) (.cons (.asg (.nm 4) (.call 7 (.val (.var 2) (.val (.var 1) .nil))))
    (.cons (.ife (.and (.isnN (.pl (.mk 4 .nil))) (.one (.or (.isN (.pl (.mk 3 .nil))) (.one (.cmp .lt (.two (.ex (.bi .len (.one (.pl (.mk 4 .nil))))) (.ex (.bi .len (.one (.pl (.mk 3 .nil))))))))))) (.cons (.asg (.nm 3) (.var 4))
    .nil) .nil)
    .nil)))
    (.cons (.ret (.var 3))
    .nil))) }
/-- least_ring -/
def f9 : Fn :=
  { name := "least_ring", ps := ["web"], ns := ["web", "found"], refs := [false], body := (.cons (.asg (.nm 1) (.call 8 (.val (.var 0) .nil)))
    (.cons (.ret (.ife (.isN (.pl (.mk 1 .nil))) .non (.bi .len (.one (.pl (.mk 1 .nil))))))
    .nil)) }
/-- ball_points -/
def f10 : Fn :=
  { name := "ball_points", ps := ["m", "k"], ns := ["m", "k", "i"], refs := [false, false], body := (.cons (.ret (.bi .sum (.one (.ex (.comp (.bin .mul (.bin .mul (.bi .comb (.two (.pl (.mk 0 .nil)) (.pl (.mk 2 .nil)))) (.bi .comb (.two (.pl (.mk 1 .nil)) (.pl (.mk 2 .nil))))) (.bin .shl (.int 1) (.var 2))) [2] (.nm 2) (.rng1 (.bin .add (.bi .min (.two (.pl (.mk 0 .nil)) (.pl (.mk 1 .nil)))) (.int 1))) .nil)))))
    .nil) }
/-- ball_bar -/
def f11 : Fn :=
  { name := "ball_bar", ps := ["m", "n"], ns := ["m", "n", "found"], refs := [false, false], body := (.cons (.asg (.nm 2) (.int 0))
    (.cons (.whil (.cmp .lt (.two (.ex (.call 10 (.val (.var 0) (.val (.var 2) .nil)))) (.pl (.mk 1 .nil)))) (.cons (.asg (.nm 2) (.bin .add (.var 2) (.int 1)))
    .nil))
    (.cons (.ret (.var 2))
    .nil))) }
/-- farthest -/
def f12 : Fn :=
  { name := "farthest", ps := ["n", "steps"], ns := ["n", "steps", "far", "row", "place", "step", "other"], refs := [false, false], body := (.cons (.par3 2 3 4 (.bin .mul (.lst (.cons .non .nil)) (.var 0)) (.lst (.cons (.int 0) .nil)) (.int 0))
    (.cons (.asg (.sub (.mk 2 .nil) (.int 0)) (.int 0))
    (.cons (.whil (.cmp .lt (.two (.pl (.mk 4 .nil)) (.ex (.bi .len (.one (.pl (.mk 3 .nil))))))) (.cons (.forS (.nm 5) (.seq (.var 1)) (.cons (.asg (.nm 6) (.bin .mod (.bin .add (.idx (.pl (.mk 3 .nil)) (.var 4)) (.var 5)) (.var 0)))
    (.cons (.ife (.isN (.pl (.mk 2 (.cons (.var 6) .nil)))) (.cons (.asg (.sub (.mk 2 .nil) (.var 6)) (.bin .add (.idx (.pl (.mk 2 .nil)) (.idx (.pl (.mk 3 .nil)) (.var 4))) (.int 1)))
    (.cons (.expr (.meth .append (.mk 3 .nil) (.cons (.var 6) .nil)))
    .nil)) .nil)
    .nil)))
    (.cons (.asg (.nm 4) (.bin .add (.var 4) (.int 1)))
    .nil)))
    (.cons (.ret (.idx (.pl (.mk 2 .nil)) (.idx (.pl (.mk 3 .nil)) (.un .neg (.int 1)))))
    .nil)))) }
/-- commuting_widths -/
def f13 : Fn :=
  { name := "commuting_widths", ps := ["n", "steps"], ns := ["n", "steps", "shared", "step"], refs := [false, false], body := (.cons (.asg (.nm 2) (.var 0))
    (.cons (.forS (.nm 3) (.seq (.var 1)) (.cons (.asg (.nm 2) (.bi .gcd (.two (.pl (.mk 2 .nil)) (.pl (.mk 3 .nil)))))
    .nil))
    (.cons (.ife (.cmp .gt (.two (.pl (.mk 2 .nil)) (.ex (.int 1)))) (.cons .bad
    .nil) .nil)
    (.cons (.ret (.tup (.cons (.call 12 (.val (.var 0) (.val (.var 1) .nil))) (.cons (.call 12 (.val (.var 0) (.val (.bin .add (.var 1) (.bi .tuple (.one (.ex (.comp (.bin .sub (.var 0) (.var 3)) [3] (.nm 3) (.seq (.var 1)) .nil))))) .nil))) .nil))))
    .nil)))) }
/-- loop_widths -/
def f14 : Fn :=
  { name := "loop_widths", ps := ["n", "a", "b"], ns := ["n", "a", "b"], refs := [false, false, false], body := (.cons (.ret (.call 13 (.val (.var 0) (.val (.tup (.cons (.var 1) (.cons (.var 2) .nil))) .nil))))
    .nil) }
/-- loops_bar -/
def f15 : Fn :=
  { name := "loops_bar", ps := ["n"], ns := ["n", "found"], refs := [false], body := (.cons (.asg (.nm 1) (.int 0))
    (.cons (.whil (.cmp .lt (.two (.ex (.bin .mul (.bin .add (.var 1) (.int 2)) (.bin .add (.var 1) (.int 2)))) (.ex (.bin .mul (.int 3) (.var 0))))) (.cons (.asg (.nm 1) (.bin .add (.var 1) (.int 1)))
    .nil))
    (.cons (.ret (.var 1))
    .nil))) }
/-- loops_most -/
def f16 : Fn :=
  { name := "loops_most", ps := ["k"], ns := ["k"], refs := [false], body := (.cons (.ret (.bin .add (.bin .add (.bin .mul (.bin .mul (.int 2) (.var 0)) (.var 0)) (.bin .mul (.int 2) (.var 0))) (.int 1)))
    .nil) }
/-- loops_best -/
def f17 : Fn :=
  { name := "loops_best", ps := ["k"], ns := ["k"], refs := [false], body := (.cons (.ret (.tup (.cons (.call 16 (.val (.var 0) .nil)) (.cons (.var 0) (.cons (.bin .add (.var 0) (.int 1)) .nil)))))
    .nil) }
/-- all_webs -/
def f18 : Fn :=
  { name := "all_webs", ps := ["n"], ns := ["n", "found", "i", "j", "ties"], refs := [false], body := (.cons (.asg (.nm 1) (.lst (.cons (.tup .nil) .nil)))
    (.cons (.forS (.nm 2) (.rng1 (.var 0)) (.cons (.forS (.nm 3) (.rng2 (.bin .add (.var 2) (.int 1)) (.var 0)) (.cons (.asg (.nm 1) (.bin .add (.var 1) (.comp (.bin .add (.var 4) (.tup (.cons (.tup (.cons (.var 2) (.cons (.var 3) .nil))) .nil))) [4] (.nm 4) (.seq (.var 1)) .nil)))
    .nil))
    .nil))
    (.cons (.ret (.comp (.tup (.cons (.var 0) (.cons (.var 4) .nil))) [4] (.nm 4) (.seq (.var 1)) .nil))
    .nil))) }
/-- webs_looked -/
def f19 : Fn :=
  { name := "webs_looked", ps := ["n"], ns := ["n", "counts", "web", "key", "ring", "width"], refs := [false], body := (.cons (.asg (.nm 1) (.dnew true))
    (.cons (.forS (.nm 2) (.seq (.call 18 (.val (.var 0) .nil))) (.cons (.par 4 5 (.call 9 (.val (.var 2) .nil)) (.call 3 (.val (.var 2) .nil)))
    (.cons (.asg (.nm 3) (.tup (.cons (.ife (.isnN (.pl (.mk 4 .nil))) (.var 4) (.int 0)) (.cons (.ife (.isnN (.pl (.mk 5 .nil))) (.var 5) (.un .neg (.int 1))) .nil))))
    (.cons (.asg (.sub (.mk 1 .nil) (.var 3)) (.bin .add (.meth .get2 (.mk 1 .nil) (.cons (.var 3) (.cons (.int 0) .nil))) (.int 1)))
    .nil))))
    (.cons (.ret (.bi .tuple (.one (.ex (.comp (.tup (.cons (.var 4) (.cons (.var 5) (.cons (.idx (.pl (.mk 1 .nil)) (.tup (.cons (.var 4) (.cons (.var 5) .nil)))) .nil)))) [4, 5] (.tp (.cons (.nm 4) (.cons (.nm 5) .nil))) (.seq (.bi .sorted (.one (.pl (.mk 1 .nil))))) .nil)))))
    .nil))) }
/-- loops_looked -/
def f20 : Fn :=
  { name := "loops_looked", ps := ["n"], ns := ["n", "found", "a", "b", "one", "both"], refs := [false], body := (.cons (.asg (.nm 1) (.lst .nil))
    (.cons (.forS (.nm 2) (.rng2 (.int 1) (.var 0)) (.cons (.expr (.meth .extend (.mk 1 .nil) (.cons (.comp (.call 14 (.val (.var 0) (.val (.var 2) (.val (.var 3) .nil)))) [3] (.nm 3) (.rng2 (.var 2) (.var 0)) (.cons (.cmp .eq (.two (.ex (.bi .gcd (.two (.pl (.mk 0 .nil)) (.ex (.bi .gcd (.two (.pl (.mk 2 .nil)) (.pl (.mk 3 .nil)))))))) (.ex (.int 1)))) .nil)) .nil)))
    .nil))
    (.cons (.ret (.tup (.cons (.bi .min (.one (.ex (.comp (.var 4) [4, 5] (.tp (.cons (.nm 4) (.cons (.nm 5) .nil))) (.seq (.var 1)) .nil)))) (.cons (.bi .min (.one (.ex (.comp (.var 5) [4, 5] (.tp (.cons (.nm 4) (.cons (.nm 5) .nil))) (.seq (.var 1)) .nil)))) .nil))))
    .nil))) }
/-- _law_own_bag -/
def f21 : Fn :=
  { name := "_law_own_bag", ps := ["script"], ns := ["script", "cells", "mixed", "cell"], refs := [false], body := (.cons (.asg (.nm 1) (.comp (.bi .abs (.one (.pl (.mk 3 .nil)))) [3] (.nm 3) (.seq (.slc (.pl (.mk 0 .nil)) .no (.yes (.int 63)))) .nil))
    (.cons (.asg (.nm 2) (.bin .add (.int 3571) (.bi .len (.one (.pl (.mk 1 .nil))))))
    (.cons (.forS (.nm 3) (.seq (.var 1)) (.cons (.asg (.nm 2) (.bin .mod (.bi .int (.one (.ex (.bin .add (.bin .add (.bin .mul (.var 2) (.int 48271)) (.bin .mod (.bi .int (.one (.pl (.mk 3 .nil)))) (.int 2147483629))) (.int 7))))) (.int 2147483647)))
    .nil))
    (.cons (.ret (.lst (.cons (.bi .revl (.one (.ex (.bi .list (.one (.pl (.mk 1 .nil))))))) (.cons (.int 0) (.cons (.var 2) .nil)))))
    .nil)))) }
/-- _law_draw -/
def f22 : Fn :=
  { name := "_law_draw", ps := ["bag", "below"], ns := ["bag", "below", "turn", "cell", "found"], refs := [true, false], body := (.cons (.forS (.nm 2) (.rng1 (.int 64)) (.cons (.ife (.or (.cmp .gt (.two (.pl (.mk 0 (.cons (.int 1) .nil))) (.ex (.int 0)))) (.one (.cmp .eq (.two (.pl (.mk 0 (.cons (.int 0) .nil))) (.ex (.lst .nil)))))) (.cons .brk
    .nil) .nil)
    (.cons (.asg (.nm 3) (.meth .pop (.mk 0 (.cons (.int 0) .nil)) .nil))
    (.cons (.asg (.sub (.mk 0 .nil) (.int 1)) (.ife (.cmp .gt (.two (.pl (.mk 3 .nil)) (.ex (.bin .pow (.int 10) (.int 9))))) (.var 3) (.int 0)))
    .nil))))
    (.cons (.ife (.cmp .gt (.two (.pl (.mk 0 (.cons (.int 1) .nil))) (.ex (.int 0)))) (.cons (.asg (.nm 4) (.bin .mod (.bi .int (.one (.pl (.mk 0 (.cons (.int 1) .nil))))) (.var 1)))
    (.cons (.asg (.sub (.mk 0 .nil) (.int 1)) (.bin .fdiv (.idx (.pl (.mk 0 .nil)) (.int 1)) (.var 1)))
    (.cons (.ret (.var 4))
    .nil))) .nil)
    (.cons (.asg (.sub (.mk 0 .nil) (.int 2)) (.bin .mod (.bi .int (.one (.ex (.bin .add (.bin .mul (.idx (.pl (.mk 0 .nil)) (.int 2)) (.int 48271)) (.int 11))))) (.int 2147483647)))
    (.cons (.ret (.bin .mod (.bi .int (.one (.ex (.bin .fdiv (.bin .mod (.bi .int (.one (.ex (.bin .mul (.idx (.pl (.mk 0 .nil)) (.int 2)) (.idx (.pl (.mk 0 .nil)) (.int 2)))))) (.int 2147483629)) (.int 7))))) (.var 1)))
    .nil)))) }
/-- _law_pick -/
def f23 : Fn :=
  { name := "_law_pick", ps := ["bag", "some"], ns := ["bag", "some"], refs := [true, false], body := (.cons (.ret (.idx (.pl (.mk 1 .nil)) (.call 22 (.ref 0 (.val (.bi .len (.one (.pl (.mk 1 .nil)))) .nil)))))
    .nil) }
/-- _law_same -/
def f24 : Fn :=
  { name := "_law_same", ps := ["told", "due"], ns := ["told", "due", "one", "other"], refs := [false, false], body := (.cons (.ife (.isN (.pl (.mk 1 .nil))) (.cons (.ret (.isN (.pl (.mk 0 .nil))))
    .nil) .nil)
    (.cons (.ife (.bi .istup (.one (.pl (.mk 1 .nil)))) (.cons (.ife (.or (.un .nt (.bi .istup (.one (.pl (.mk 0 .nil))))) (.one (.cmp .ne (.two (.ex (.bi .len (.one (.pl (.mk 0 .nil))))) (.ex (.bi .len (.one (.pl (.mk 1 .nil))))))))) (.cons (.ret (.bl false))
    .nil) .nil)
    (.cons (.ret (.bi .all (.one (.ex (.comp (.call 24 (.val (.var 2) (.val (.var 3) .nil))) [2, 3] (.tp (.cons (.nm 2) (.cons (.nm 3) .nil))) (.zip (.var 0) (.var 1)) .nil)))))
    .nil)) .nil)
    (.cons (.ret (.and (.bi .isint (.one (.pl (.mk 0 .nil)))) (.and (.un .nt (.bi .isbool (.one (.pl (.mk 0 .nil))))) (.one (.cmp .eq (.two (.pl (.mk 0 .nil)) (.pl (.mk 1 .nil))))))))
    .nil))) }
/-- _law_far -/
def f25 : Fn :=
  { name := "_law_far", ps := ["near", "point", "left"], ns := ["near", "point", "left", "step", "found", "front", "later", "one", "other"], refs := [false, false, false], body := (.cons (.par 4 5 (.bin .mul (.lst (.cons (.un .neg (.int 1)) .nil)) (.bi .len (.one (.pl (.mk 0 .nil))))) (.lst (.cons (.var 1) .nil)))
    (.cons (.asg (.sub (.mk 4 .nil) (.var 1)) (.int 0))
    (.cons (.forS (.nm 3) (.rng2 (.int 1) (.bi .len (.one (.pl (.mk 0 .nil))))) (.cons (.asg (.nm 6) (.lst .nil))
    (.cons (.forS (.nm 7) (.seq (.var 5)) (.cons (.forS (.nm 8) (.seq (.idx (.pl (.mk 0 .nil)) (.var 7))) (.cons (.ife (.and (.cmp .lt (.two (.pl (.mk 4 (.cons (.var 8) .nil))) (.ex (.int 0)))) (.and (.cmp .ne (.two (.ex (.tup (.cons (.var 7) (.cons (.var 8) .nil)))) (.pl (.mk 2 .nil)))) (.one (.cmp .ne (.two (.ex (.tup (.cons (.var 8) (.cons (.var 7) .nil)))) (.pl (.mk 2 .nil))))))) (.cons (.asg (.sub (.mk 4 .nil) (.var 8)) (.var 3))
    (.cons (.expr (.meth .append (.mk 6 .nil) (.cons (.var 8) .nil)))
    .nil)) .nil)
    .nil))
    .nil))
    (.cons (.asg (.nm 5) (.var 6))
    .nil))))
    (.cons (.ret (.var 4))
    .nil)))) }
/-- _law_near -/
def f26 : Fn :=
  { name := "_law_near", ps := ["n", "pairs"], ns := ["n", "pairs", "near", "i", "j", "point"], refs := [false, false], body := (.cons (.asg (.nm 2) (.comp (.lst .nil) [5] (.nm 5) (.rng1 (.var 0)) .nil))
    (.cons (.forS (.tp (.cons (.nm 3) (.cons (.nm 4) .nil))) (.seq (.var 1)) (.cons (.expr (.meth .append (.mk 2 (.cons (.var 3) .nil)) (.cons (.var 4) .nil)))
    (.cons (.expr (.meth .append (.mk 2 (.cons (.var 4) .nil)) (.cons (.var 3) .nil)))
    .nil)))
    (.cons (.ret (.var 2))
    .nil))) }
/-- _law_ring -/
def f27 : Fn :=
  { name := "_law_ring", ps := ["n", "pairs"], ns := ["n", "pairs", "tie", "near", "found", "steps"], refs := [false, false], body := (.cons (.par 3 4 (.call 26 (.val (.var 0) (.val (.var 1) .nil))) (.lst .nil))
    (.cons (.forS (.nm 2) (.seq (.var 1)) (.cons (.asg (.nm 5) (.idx (.ex (.call 25 (.val (.var 3) (.val (.idx (.pl (.mk 2 .nil)) (.int 0)) (.val (.var 2) .nil))))) (.idx (.pl (.mk 2 .nil)) (.int 1))))
    (.cons (.ife (.cmp .gt (.two (.pl (.mk 5 .nil)) (.ex (.int 0)))) (.cons (.expr (.meth .append (.mk 4 .nil) (.cons (.bin .add (.var 5) (.int 1)) .nil)))
    .nil) .nil)
    .nil)))
    (.cons (.ret (.ife (.cmp .ne (.two (.pl (.mk 4 .nil)) (.ex (.lst .nil)))) (.bi .min (.one (.pl (.mk 4 .nil)))) (.int 0)))
    .nil))) }
/-- _law_width -/
def f28 : Fn :=
  { name := "_law_width", ps := ["n", "pairs"], ns := ["n", "pairs", "point", "near", "found", "row"], refs := [false, false], body := (.cons (.par 3 4 (.call 26 (.val (.var 0) (.val (.var 1) .nil))) (.int 0))
    (.cons (.forS (.nm 2) (.rng1 (.var 0)) (.cons (.asg (.nm 5) (.call 25 (.val (.var 3) (.val (.var 2) (.val (.tup .nil) .nil)))))
    (.cons (.ife (.cmp .lt (.two (.ex (.bi .min (.one (.pl (.mk 5 .nil))))) (.ex (.int 0)))) (.cons (.ret (.un .neg (.int 1)))
    .nil) .nil)
    (.cons (.asg (.nm 4) (.bi .max (.two (.pl (.mk 4 .nil)) (.ex (.bi .max (.one (.pl (.mk 5 .nil))))))))
    .nil))))
    (.cons (.ret (.var 4))
    .nil))) }
/-- _law_all_pairs -/
def f29 : Fn :=
  { name := "_law_all_pairs", ps := ["n"], ns := ["n", "found", "i", "j"], refs := [false], body := (.cons (.asg (.nm 1) (.lst .nil))
    (.cons (.forS (.nm 2) (.rng1 (.var 0)) (.cons (.expr (.meth .extend (.mk 1 .nil) (.cons (.comp (.tup (.cons (.var 2) (.cons (.var 3) .nil))) [3] (.nm 3) (.rng2 (.bin .add (.var 2) (.int 1)) (.var 0)) .nil) .nil)))
    .nil))
    (.cons (.ret (.var 1))
    .nil))) }
/-- _law_webs -/
def f30 : Fn :=
  { name := "_law_webs", ps := ["n"], ns := ["n", "mask", "pairs", "many", "own", "key", "k", "pair"], refs := [false], body := (.cons (.parT 2 3 (.call 29 (.val (.var 0) .nil)) (.dnew true))
    (.cons (.forS (.nm 1) (.rng1 (.idx (.ex (.lst (.cons (.int 1) (.cons (.int 1) (.cons (.int 2) (.cons (.int 8) (.cons (.int 64) .nil))))))) (.var 0))) (.cons (.asg (.nm 4) (.comp (.var 7) [6, 7] (.tp (.cons (.nm 6) (.cons (.nm 7) .nil))) (.enum (.var 2)) (.cons (.cmp .eq (.two (.ex (.bin .band (.bin .shr (.var 1) (.var 6)) (.int 1))) (.ex (.int 1)))) .nil)))
    (.cons (.asg (.nm 5) (.tup (.cons (.call 27 (.val (.var 0) (.val (.var 4) .nil))) (.cons (.call 28 (.val (.var 0) (.val (.var 4) .nil))) .nil))))
    (.cons (.asg (.sub (.mk 3 .nil) (.var 5)) (.bin .add (.meth .get2 (.mk 3 .nil) (.cons (.var 5) (.cons (.int 0) .nil))) (.int 1)))
    .nil))))
    (.cons (.ret (.bi .tuple (.one (.ex (.comp (.bin .add (.var 5) (.tup (.cons (.idx (.pl (.mk 3 .nil)) (.var 5)) .nil))) [5] (.nm 5) (.seq (.bi .sorted (.one (.pl (.mk 3 .nil))))) .nil)))))
    .nil))) }
/-- _law_five -/
def f31 : Fn :=
  { name := "_law_five", ps := [], ns := ["found"], refs := [], body := (.cons (.asg (.nm 0) (.tup (.cons (.tup (.cons (.int 0) (.cons (.un .neg (.int 1)) (.cons (.int 166) .nil)))) (.cons (.tup (.cons (.int 0) (.cons (.int 2) (.cons (.int 5) .nil)))) (.cons (.tup (.cons (.int 0) (.cons (.int 3) (.cons (.int 60) .nil)))) (.cons (.tup (.cons (.int 0) (.cons (.int 4) (.cons (.int 60) .nil)))) (.cons (.tup (.cons (.int 3) (.cons (.un .neg (.int 1)) (.cons (.int 115) .nil)))) (.cons (.tup (.cons (.int 3) (.cons (.int 1) (.cons (.int 1) .nil)))) (.cons (.tup (.cons (.int 3) (.cons (.int 2) (.cons (.int 340) .nil)))) (.cons (.tup (.cons (.int 3) (.cons (.int 3) (.cons (.int 180) .nil)))) .nil))))))))))
    (.cons (.ret (.bin .add (.var 0) (.tup (.cons (.tup (.cons (.int 4) (.cons (.un .neg (.int 1)) (.cons (.int 15) .nil)))) (.cons (.tup (.cons (.int 4) (.cons (.int 2) (.cons (.int 10) .nil)))) (.cons (.tup (.cons (.int 4) (.cons (.int 3) (.cons (.int 60) .nil)))) (.cons (.tup (.cons (.int 5) (.cons (.int 2) (.cons (.int 12) .nil)))) .nil)))))))
    .nil)) }
/-- _law_are_webs_right -/
def f32 : Fn :=
  { name := "_law_are_webs_right", ps := ["bag"], ns := ["bag", "n", "due", "told", "trees", "pairs", "turn", "is_named", "way", "own", "web", "found", "ring", "width", "many", "pair", "item"], refs := [true], body := (.cons (.par 1 7 (.bin .add (.int 1) (.call 22 (.ref 0 (.val (.int 4) .nil)))) (.cmp .eq (.two (.ex (.call 22 (.ref 0 (.val (.int 2) .nil)))) (.ex (.int 0)))))
    (.cons (.asg (.nm 1) (.ife (.cmp .eq (.two (.ex (.call 22 (.ref 0 (.val (.int 8) .nil)))) (.ex (.int 0)))) (.int 5) (.var 1)))
    (.cons (.asg (.nm 2) (.ife (.cmp .lt (.two (.pl (.mk 1 .nil)) (.ex (.int 5)))) (.call 30 (.val (.var 1) .nil)) (.call 31 .nil)))
    (.cons (.asg (.nm 3) (.ife (.var 7) (.callK 19 0 (.cons (.var 1) .nil) ["n"] [0]) (.call 19 (.val (.var 1) .nil))))
    (.cons (.ife (.or (.un .nt (.call 24 (.val (.var 3) (.val (.var 2) .nil)))) (.one (.and (.cmp .lt (.two (.pl (.mk 1 .nil)) (.ex (.int 4)))) (.one (.un .nt (.call 24 (.val (.call 19 (.val (.var 1) .nil)) (.val (.var 2) .nil)))))))) (.cons (.ret (.bl false))
    .nil) .nil)
    (.cons (.asg (.nm 4) (.comp (.var 14) [12, 13, 14] (.tp (.cons (.nm 12) (.cons (.nm 13) (.cons (.nm 14) .nil)))) (.seq (.var 3)) (.cons (.and (.cmp .eq (.two (.pl (.mk 12 .nil)) (.ex (.int 0)))) (.one (.cmp .ge (.two (.pl (.mk 13 .nil)) (.ex (.int 0)))))) .nil)))
    (.cons (.ife (.or (.cmp .ne (.two (.ex (.bi .sum (.one (.ex (.comp (.idx (.pl (.mk 16 .nil)) (.int 2)) [16] (.nm 16) (.seq (.var 3)) .nil))))) (.ex (.idx (.ex (.lst (.cons (.int 1) (.cons (.int 1) (.cons (.int 2) (.cons (.int 8) (.cons (.int 64) (.cons (.int 1024) .nil)))))))) (.var 1))))) (.one (.cmp .ne (.two (.ex (.bi .sum (.one (.pl (.mk 4 .nil))))) (.ex (.idx (.ex (.lst (.cons (.int 1) (.cons (.int 1) (.cons (.int 1) (.cons (.int 3) (.cons (.int 16) (.cons (.int 125) .nil)))))))) (.var 1))))))) (.cons (.ret (.bl false))
    .nil) .nil)
    (.cons (.asg (.nm 5) (.call 29 (.val (.var 1) .nil)))
    (.cons (.forS (.nm 6) (.rng1 (.int 3)) (.cons (.asg (.nm 8) (.call 22 (.ref 0 (.val (.int 3) .nil))))
    (.cons (.asg (.nm 9) (.comp (.var 15) [15] (.nm 15) (.seq (.var 5)) (.cons (.or (.and (.cmp .eq (.two (.pl (.mk 8 .nil)) (.ex (.int 0)))) (.one (.cmp .eq (.two (.ex (.call 22 (.ref 0 (.val (.int 2) .nil)))) (.ex (.int 0)))))) (.one (.and (.cmp .gt (.two (.pl (.mk 8 .nil)) (.ex (.int 0)))) (.one (.cmp .ge (.two (.ex (.call 22 (.ref 0 (.val (.int 4) .nil)))) (.pl (.mk 8 .nil)))))))) .nil)))
    (.cons (.parT 12 13 (.call 27 (.val (.var 1) (.val (.var 9) .nil))) (.call 28 (.val (.var 1) (.val (.var 9) .nil))))
    (.cons (.asg (.nm 10) (.tup (.cons (.var 1) (.cons (.bi .tuple (.one (.pl (.mk 9 .nil)))) .nil))))
    (.cons (.asg (.nm 11) (.ife (.var 7) (.tup (.cons (.callK 9 0 (.cons (.var 10) .nil) ["web"] [0]) (.cons (.call 3 (.val (.var 10) .nil)) .nil))) (.tup (.cons (.call 9 (.val (.var 10) .nil)) (.cons (.callK 3 0 (.cons (.var 10) .nil) ["web"] [0]) .nil)))))
    (.cons (.ife (.un .nt (.call 24 (.val (.var 11) (.val (.tup (.cons (.ife (.cmp .gt (.two (.pl (.mk 12 .nil)) (.ex (.int 0)))) (.var 12) .non) (.cons (.ife (.cmp .ge (.two (.pl (.mk 13 .nil)) (.ex (.int 0)))) (.var 13) .non) .nil))) .nil)))) (.cons (.ret (.bl false))
    .nil) .nil)
    (.cons (.ife (.cmp .eq (.two (.ex (.comp (.var 16) [16] (.nm 16) (.seq (.var 3)) (.cons (.and (.cmp .eq (.two (.pl (.mk 16 (.cons (.int 0) .nil))) (.pl (.mk 12 .nil)))) (.one (.cmp .eq (.two (.pl (.mk 16 (.cons (.int 1) .nil))) (.pl (.mk 13 .nil)))))) .nil))) (.ex (.lst .nil)))) (.cons (.ret (.bl false))
    .nil) .nil)
    (.cons (.ife (.and (.cmp .gt (.two (.pl (.mk 12 .nil)) (.ex (.int 0)))) (.and (.cmp .ge (.two (.pl (.mk 13 .nil)) (.ex (.int 0)))) (.one (.cmp .gt (.two (.pl (.mk 12 .nil)) (.ex (.bin .add (.bin .mul (.int 2) (.var 13)) (.int 1)))))))) (.cons (.ret (.bl false))
    .nil) .nil)
    .nil)))))))))
    (.cons (.ret (.bl true))
    .nil)))))))))) }
/-- _law_loop -/
def f33 : Fn :=
  { name := "_law_loop", ps := ["n", "steps"], ns := ["n", "steps", "turn", "found", "front", "many", "later", "place", "step", "other"], refs := [false, false], body := (.cons (.par3 3 4 5 (.bin .mul (.lst (.cons (.un .neg (.int 1)) .nil)) (.var 0)) (.lst (.cons (.int 0) .nil)) (.int 1))
    (.cons (.asg (.sub (.mk 3 .nil) (.int 0)) (.int 0))
    (.cons (.forS (.nm 2) (.rng2 (.int 1) (.var 0)) (.cons (.asg (.nm 6) (.lst .nil))
    (.cons (.forS (.nm 7) (.seq (.var 4)) (.cons (.forS (.nm 8) (.seq (.var 1)) (.cons (.asg (.nm 9) (.bin .mod (.bi .int (.one (.ex (.bin .add (.var 7) (.var 8))))) (.var 0)))
    (.cons (.ife (.cmp .lt (.two (.pl (.mk 3 (.cons (.var 9) .nil))) (.ex (.int 0)))) (.cons (.asg (.sub (.mk 3 .nil) (.var 9)) (.var 2))
    (.cons (.expr (.meth .append (.mk 6 .nil) (.cons (.var 9) .nil)))
    .nil)) .nil)
    .nil)))
    .nil))
    (.cons (.ife (.cmp .eq (.two (.pl (.mk 6 .nil)) (.ex (.lst .nil)))) (.cons (.ret (.ife (.cmp .eq (.two (.pl (.mk 5 .nil)) (.pl (.mk 0 .nil)))) (.bin .sub (.var 2) (.int 1)) (.un .neg (.int 1))))
    .nil) .nil)
    (.cons (.par 4 5 (.var 6) (.bin .add (.var 5) (.bi .len (.one (.pl (.mk 6 .nil))))))
    .nil)))))
    (.cons (.ret (.ife (.cmp .eq (.two (.pl (.mk 5 .nil)) (.pl (.mk 0 .nil)))) (.bin .sub (.var 0) (.int 1)) (.un .neg (.int 1))))
    .nil)))) }
/-- _law_both -/
def f34 : Fn :=
  { name := "_law_both", ps := ["n", "a", "b"], ns := ["n", "a", "b"], refs := [false, false, false], body := (.cons (.ret (.tup (.cons (.call 33 (.val (.var 0) (.val (.lst (.cons (.var 1) (.cons (.var 2) .nil))) .nil))) (.cons (.call 33 (.val (.var 0) (.val (.lst (.cons (.var 1) (.cons (.var 2) (.cons (.bin .sub (.var 0) (.var 1)) (.cons (.bin .sub (.var 0) (.var 2)) .nil))))) .nil))) .nil))))
    .nil) }
/-- _law_least_bar -/
def f35 : Fn :=
  { name := "_law_least_bar", ps := ["n"], ns := ["n", "w"], refs := [false], body := (.cons (.ret (.idx (.ex (.comp (.var 1) [1] (.nm 1) (.rng1 (.int 12)) (.cons (.cmp .ge (.two (.ex (.bin .mul (.bin .add (.var 1) (.int 2)) (.bin .add (.var 1) (.int 2)))) (.ex (.bin .mul (.int 3) (.var 0))))) .nil))) (.int 0)))
    .nil) }
/-- _law_least_ball -/
def f36 : Fn :=
  { name := "_law_least_ball", ps := ["n"], ns := ["n", "w"], refs := [false], body := (.cons (.ret (.idx (.ex (.comp (.var 1) [1] (.nm 1) (.rng1 (.int 12)) (.cons (.cmp .ge (.two (.ex (.bin .add (.bin .add (.bin .mul (.bin .mul (.int 2) (.var 1)) (.var 1)) (.bin .mul (.int 2) (.var 1))) (.int 1))) (.pl (.mk 0 .nil)))) .nil))) (.int 0)))
    .nil) }
/-- _law_loops -/
def f37 : Fn :=
  { name := "_law_loops", ps := ["n"], ns := ["n", "found", "a", "pair", "b"], refs := [false], body := (.cons (.ife (.cmp .gt (.two (.pl (.mk 0 .nil)) (.ex (.int 9)))) (.cons (.ret (.tup (.cons (.bin .add (.call 35 (.val (.var 0) .nil)) (.ife (.cmp .isin (.two (.pl (.mk 0 .nil)) (.ex (.tup (.cons (.int 12) (.cons (.int 20) (.cons (.int 25) (.cons (.int 27) (.cons (.int 32) .nil))))))))) (.int 1) (.int 0))) (.cons (.call 36 (.val (.var 0) .nil)) .nil))))
    .nil) .nil)
    (.cons (.asg (.nm 1) (.lst .nil))
    (.cons (.forS (.nm 2) (.rng2 (.int 1) (.var 0)) (.cons (.expr (.meth .extend (.mk 1 .nil) (.cons (.comp (.call 34 (.val (.var 0) (.val (.var 2) (.val (.var 4) .nil)))) [4] (.nm 4) (.rng2 (.var 2) (.var 0)) .nil) .nil)))
    .nil))
    (.cons (.asg (.nm 1) (.comp (.var 3) [3] (.nm 3) (.seq (.var 1)) (.cons (.cmp .ge (.two (.pl (.mk 3 (.cons (.int 0) .nil))) (.ex (.int 0)))) .nil)))
    (.cons (.ret (.tup (.cons (.bi .min (.one (.ex (.comp (.idx (.pl (.mk 3 .nil)) (.int 0)) [3] (.nm 3) (.seq (.var 1)) .nil)))) (.cons (.bi .min (.one (.ex (.comp (.idx (.pl (.mk 3 .nil)) (.int 1)) [3] (.nm 3) (.seq (.var 1)) .nil)))) .nil))))
    .nil))))) }
/-- _law_are_loops_right -/
def f38 : Fn :=
  { name := "_law_are_loops_right", ps := ["bag"], ns := ["bag", "n", "due", "told", "found", "turn", "k", "best", "way", "is_named", "least", "ball", "own", "widths", "a", "b"], refs := [true], body := (.cons (.par 8 9 (.call 22 (.ref 0 (.val (.int 12) .nil))) (.cmp .eq (.two (.ex (.call 22 (.ref 0 (.val (.int 2) .nil)))) (.ex (.int 0)))))
    (.cons (.asg (.nm 1) (.ife (.cmp .lt (.two (.pl (.mk 8 .nil)) (.ex (.int 4)))) (.bin .add (.int 2) (.call 22 (.ref 0 (.val (.int 8) .nil)))) (.ife (.cmp .lt (.two (.pl (.mk 8 .nil)) (.ex (.int 10)))) (.bin .add (.int 10) (.call 22 (.ref 0 (.val (.int 14) .nil)))) (.bin .add (.int 24) (.call 22 (.ref 0 (.val (.int 9) .nil)))))))
    (.cons (.ife (.cmp .eq (.two (.pl (.mk 8 .nil)) (.ex (.int 11)))) (.cons (.asg (.nm 1) (.call 23 (.ref 0 (.val (.lst (.cons (.int 40) (.cons (.int 39) (.cons (.bin .add (.int 33) (.call 22 (.ref 0 (.val (.int 8) .nil)))) (.cons (.int 12) (.cons (.int 20) (.cons (.int 25) (.cons (.int 27) (.cons (.int 32) .nil))))))))) .nil))))
    .nil) .nil)
    (.cons (.asg (.nm 2) (.call 37 (.val (.var 1) .nil)))
    (.cons (.asg (.nm 3) (.ife (.var 9) (.callK 20 0 (.cons (.var 1) .nil) ["n"] [0]) (.call 20 (.val (.var 1) .nil))))
    (.cons (.ife (.or (.un .nt (.call 24 (.val (.var 3) (.val (.var 2) .nil)))) (.one (.and (.cmp .lt (.two (.pl (.mk 1 .nil)) (.ex (.int 10)))) (.one (.un .nt (.call 24 (.val (.call 20 (.val (.var 1) .nil)) (.val (.var 2) .nil)))))))) (.cons (.ret (.bl false))
    .nil) .nil)
    (.cons (.par 10 11 (.call 35 (.val (.var 1) .nil)) (.call 36 (.val (.var 1) .nil)))
    (.cons (.asg (.nm 4) (.tup (.cons (.call 15 (.val (.var 1) .nil)) (.cons (.callK 15 0 (.cons (.var 1) .nil) ["n"] [0]) (.cons (.call 11 (.val (.int 2) (.val (.var 1) .nil))) (.cons (.callK 11 0 (.cons (.int 2) (.cons (.var 1) .nil)) ["m", "n"] [0, 1]) .nil))))))
    (.cons (.ife (.or (.un .nt (.call 24 (.val (.var 4) (.val (.tup (.cons (.var 10) (.cons (.var 10) (.cons (.var 11) (.cons (.var 11) .nil))))) .nil)))) (.one (.cmp .lt (.two (.pl (.mk 3 (.cons (.int 0) .nil))) (.pl (.mk 10 .nil)))))) (.cons (.ret (.bl false))
    .nil) .nil)
    (.cons (.forS (.nm 5) (.rng1 (.int 4)) (.cons (.par 14 15 (.bin .add (.int 1) (.call 22 (.ref 0 (.val (.bin .sub (.var 1) (.int 1)) .nil)))) (.bin .add (.int 1) (.call 22 (.ref 0 (.val (.bin .sub (.var 1) (.int 1)) .nil)))))
    (.cons (.asg (.nm 12) (.call 34 (.val (.var 1) (.val (.var 14) (.val (.var 15) .nil)))))
    (.cons (.ife (.cmp .lt (.two (.pl (.mk 12 (.cons (.int 0) .nil))) (.ex (.int 0)))) (.cons (.asg (.nm 14) (.int 1))
    (.cons (.asg (.nm 12) (.call 34 (.val (.var 1) (.val (.var 14) (.val (.var 15) .nil)))))
    .nil)) .nil)
    (.cons (.asg (.nm 13) (.ife (.cmp .eq (.two (.ex (.bin .mod (.var 5) (.int 2))) (.ex (.int 0)))) (.call 14 (.val (.var 1) (.val (.var 14) (.val (.var 15) .nil)))) (.callK 14 0 (.cons (.var 1) (.cons (.var 14) (.cons (.var 15) .nil))) ["n", "a", "b"] [0, 1, 2])))
    (.cons (.ife (.or (.un .nt (.call 24 (.val (.var 13) (.val (.var 12) .nil)))) (.or (.cmp .lt (.two (.pl (.mk 12 (.cons (.int 0) .nil))) (.pl (.mk 3 (.cons (.int 0) .nil))))) (.one (.cmp .lt (.two (.pl (.mk 12 (.cons (.int 1) .nil))) (.pl (.mk 3 (.cons (.int 1) .nil)))))))) (.cons (.ret (.bl false))
    .nil) .nil)
    .nil))))))
    (.cons (.asg (.nm 6) (.bi .max (.two (.pl (.mk 11 .nil)) (.ex (.int 1)))))
    (.cons (.ife (.and (.cmp .le (.two (.ex (.bin .add (.var 6) (.int 2))) (.pl (.mk 1 .nil)))) (.one (.cmp .ne (.two (.ex (.idx (.ex (.call 14 (.val (.var 1) (.val (.var 6) (.val (.bin .add (.var 6) (.int 1)) .nil))))) (.int 1))) (.pl (.mk 11 .nil)))))) (.cons (.ret (.bl false))
    .nil) .nil)
    (.cons (.asg (.nm 7) (.ife (.var 9) (.call 17 (.val (.var 6) .nil)) (.callK 17 0 (.cons (.var 6) .nil) ["k"] [0])))
    (.cons (.ret (.call 24 (.val (.var 7) (.val (.tup (.cons (.bin .add (.bin .add (.bin .mul (.bin .mul (.int 2) (.var 6)) (.var 6)) (.bin .mul (.int 2) (.var 6))) (.int 1)) (.cons (.var 6) (.cons (.bin .add (.var 6) (.int 1)) .nil)))) .nil))))
    .nil)))))))))))))) }
/-- law -/
def f39 : Fn :=
  { name := "law", ps := ["script"], ns := ["script", "bag"], refs := [false], body := (.cons (.asg (.nm 1) (.call 21 (.val (.var 0) .nil)))
    (.cons (.ife (.or (.un .nt (.call 32 (.ref 1 .nil))) (.one (.un .nt (.call 38 (.ref 1 .nil))))) (.cons (.ret (.bl false))
    .nil) .nil)
    (.cons (.ret (.call 24 (.val (.tup (.cons (.call 19 (.val (.int 3) .nil)) (.cons (.call 20 (.val (.int 2) .nil)) .nil))) (.val (.tup (.cons (.tup (.cons (.tup (.cons (.int 0) (.cons (.un .neg (.int 1)) (.cons (.int 4) .nil)))) (.cons (.tup (.cons (.int 0) (.cons (.int 2) (.cons (.int 3) .nil)))) (.cons (.tup (.cons (.int 3) (.cons (.int 1) (.cons (.int 1) .nil)))) .nil)))) (.cons (.tup (.cons (.int 1) (.cons (.int 1) .nil))) .nil))) .nil))))
    .nil))) }
def prg : Prg := ⟨[f0, f1, f2, f3, f4, f5, f6, f7, f8, f9, f10, f11, f12, f13, f14, f15, f16, f17, f18, f19, f20, f21, f22, f23, f24, f25, f26, f27, f28, f29, f30, f31, f32, f33, f34, f35, f36, f37, f38, f39], 2000⟩
theorem e0 (k : Nat) (a0 : T) : run prg (k + 1) 0 [a0] = Krun [false] (execSs (run prg k) (refsOf prg) 2000 f0.body [some a0, none, none, none, none]) := run_eq (d := f0) rfl rfl
theorem r0 : refsOf prg 0 = [false] := rfl
theorem e1 (k : Nat) (a0 a1 : T) : run prg (k + 1) 1 [a0, a1] = Krun [false, false] (execSs (run prg k) (refsOf prg) 2000 f1.body [some a0, some a1, none, none, none, none, none]) := run_eq (d := f1) rfl rfl
theorem r1 : refsOf prg 1 = [false, false] := rfl
theorem e2 (k : Nat) (a0 : T) : run prg (k + 1) 2 [a0] = Krun [false] (execSs (run prg k) (refsOf prg) 2000 f2.body [some a0, none, none, none]) := run_eq (d := f2) rfl rfl
theorem r2 : refsOf prg 2 = [false] := rfl
theorem e3 (k : Nat) (a0 : T) : run prg (k + 1) 3 [a0] = Krun [false] (execSs (run prg k) (refsOf prg) 2000 f3.body [some a0, none, none]) := run_eq (d := f3) rfl rfl
theorem r3 : refsOf prg 3 = [false] := rfl
theorem e4 (k : Nat) (a0 : T) : run prg (k + 1) 4 [a0] = Krun [false] (execSs (run prg k) (refsOf prg) 2000 f4.body [some a0, none, none, none, none]) := run_eq (d := f4) rfl rfl
theorem r4 : refsOf prg 4 = [false] := rfl
theorem e5 (k : Nat) (a0 a1 a2 : T) : run prg (k + 1) 5 [a0, a1, a2] = Krun [false, false, false] (execSs (run prg k) (refsOf prg) 2000 f5.body [some a0, some a1, some a2, none, none, none, none, none]) := run_eq (d := f5) rfl rfl
theorem r5 : refsOf prg 5 = [false, false, false] := rfl
theorem e6 (k : Nat) (a0 a1 : T) : run prg (k + 1) 6 [a0, a1] = Krun [false, false] (execSs (run prg k) (refsOf prg) 2000 f6.body [some a0, some a1, none]) := run_eq (d := f6) rfl rfl
theorem r6 : refsOf prg 6 = [false, false] := rfl
theorem e7 (k : Nat) (a0 a1 : T) : run prg (k + 1) 7 [a0, a1] = Krun [false, false] (execSs (run prg k) (refsOf prg) 2000 f7.body [some a0, some a1, none]) := run_eq (d := f7) rfl rfl
theorem r7 : refsOf prg 7 = [false, false] := rfl
theorem e8 (k : Nat) (a0 : T) : run prg (k + 1) 8 [a0] = Krun [false] (execSs (run prg k) (refsOf prg) 2000 f8.body [some a0, none, none, none, none]) := run_eq (d := f8) rfl rfl
theorem r8 : refsOf prg 8 = [false] := rfl
theorem e9 (k : Nat) (a0 : T) : run prg (k + 1) 9 [a0] = Krun [false] (execSs (run prg k) (refsOf prg) 2000 f9.body [some a0, none]) := run_eq (d := f9) rfl rfl
theorem r9 : refsOf prg 9 = [false] := rfl
theorem e10 (k : Nat) (a0 a1 : T) : run prg (k + 1) 10 [a0, a1] = Krun [false, false] (execSs (run prg k) (refsOf prg) 2000 f10.body [some a0, some a1, none]) := run_eq (d := f10) rfl rfl
theorem r10 : refsOf prg 10 = [false, false] := rfl
theorem e11 (k : Nat) (a0 a1 : T) : run prg (k + 1) 11 [a0, a1] = Krun [false, false] (execSs (run prg k) (refsOf prg) 2000 f11.body [some a0, some a1, none]) := run_eq (d := f11) rfl rfl
theorem r11 : refsOf prg 11 = [false, false] := rfl
theorem e12 (k : Nat) (a0 a1 : T) : run prg (k + 1) 12 [a0, a1] = Krun [false, false] (execSs (run prg k) (refsOf prg) 2000 f12.body [some a0, some a1, none, none, none, none, none]) := run_eq (d := f12) rfl rfl
theorem r12 : refsOf prg 12 = [false, false] := rfl
theorem e13 (k : Nat) (a0 a1 : T) : run prg (k + 1) 13 [a0, a1] = Krun [false, false] (execSs (run prg k) (refsOf prg) 2000 f13.body [some a0, some a1, none, none]) := run_eq (d := f13) rfl rfl
theorem r13 : refsOf prg 13 = [false, false] := rfl
theorem e14 (k : Nat) (a0 a1 a2 : T) : run prg (k + 1) 14 [a0, a1, a2] = Krun [false, false, false] (execSs (run prg k) (refsOf prg) 2000 f14.body [some a0, some a1, some a2]) := run_eq (d := f14) rfl rfl
theorem r14 : refsOf prg 14 = [false, false, false] := rfl
theorem e15 (k : Nat) (a0 : T) : run prg (k + 1) 15 [a0] = Krun [false] (execSs (run prg k) (refsOf prg) 2000 f15.body [some a0, none]) := run_eq (d := f15) rfl rfl
theorem r15 : refsOf prg 15 = [false] := rfl
theorem e16 (k : Nat) (a0 : T) : run prg (k + 1) 16 [a0] = Krun [false] (execSs (run prg k) (refsOf prg) 2000 f16.body [some a0]) := run_eq (d := f16) rfl rfl
theorem r16 : refsOf prg 16 = [false] := rfl
theorem e17 (k : Nat) (a0 : T) : run prg (k + 1) 17 [a0] = Krun [false] (execSs (run prg k) (refsOf prg) 2000 f17.body [some a0]) := run_eq (d := f17) rfl rfl
theorem r17 : refsOf prg 17 = [false] := rfl
theorem e18 (k : Nat) (a0 : T) : run prg (k + 1) 18 [a0] = Krun [false] (execSs (run prg k) (refsOf prg) 2000 f18.body [some a0, none, none, none, none]) := run_eq (d := f18) rfl rfl
theorem r18 : refsOf prg 18 = [false] := rfl
theorem e19 (k : Nat) (a0 : T) : run prg (k + 1) 19 [a0] = Krun [false] (execSs (run prg k) (refsOf prg) 2000 f19.body [some a0, none, none, none, none, none]) := run_eq (d := f19) rfl rfl
theorem r19 : refsOf prg 19 = [false] := rfl
theorem e20 (k : Nat) (a0 : T) : run prg (k + 1) 20 [a0] = Krun [false] (execSs (run prg k) (refsOf prg) 2000 f20.body [some a0, none, none, none, none, none]) := run_eq (d := f20) rfl rfl
theorem r20 : refsOf prg 20 = [false] := rfl
theorem e21 (k : Nat) (a0 : T) : run prg (k + 1) 21 [a0] = Krun [false] (execSs (run prg k) (refsOf prg) 2000 f21.body [some a0, none, none, none]) := run_eq (d := f21) rfl rfl
theorem r21 : refsOf prg 21 = [false] := rfl
theorem e22 (k : Nat) (a0 a1 : T) : run prg (k + 1) 22 [a0, a1] = Krun [true, false] (execSs (run prg k) (refsOf prg) 2000 f22.body [some a0, some a1, none, none, none]) := run_eq (d := f22) rfl rfl
theorem r22 : refsOf prg 22 = [true, false] := rfl
theorem e23 (k : Nat) (a0 a1 : T) : run prg (k + 1) 23 [a0, a1] = Krun [true, false] (execSs (run prg k) (refsOf prg) 2000 f23.body [some a0, some a1]) := run_eq (d := f23) rfl rfl
theorem r23 : refsOf prg 23 = [true, false] := rfl
theorem e24 (k : Nat) (a0 a1 : T) : run prg (k + 1) 24 [a0, a1] = Krun [false, false] (execSs (run prg k) (refsOf prg) 2000 f24.body [some a0, some a1, none, none]) := run_eq (d := f24) rfl rfl
theorem r24 : refsOf prg 24 = [false, false] := rfl
theorem e25 (k : Nat) (a0 a1 a2 : T) : run prg (k + 1) 25 [a0, a1, a2] = Krun [false, false, false] (execSs (run prg k) (refsOf prg) 2000 f25.body [some a0, some a1, some a2, none, none, none, none, none, none]) := run_eq (d := f25) rfl rfl
theorem r25 : refsOf prg 25 = [false, false, false] := rfl
theorem e26 (k : Nat) (a0 a1 : T) : run prg (k + 1) 26 [a0, a1] = Krun [false, false] (execSs (run prg k) (refsOf prg) 2000 f26.body [some a0, some a1, none, none, none, none]) := run_eq (d := f26) rfl rfl
theorem r26 : refsOf prg 26 = [false, false] := rfl
theorem e27 (k : Nat) (a0 a1 : T) : run prg (k + 1) 27 [a0, a1] = Krun [false, false] (execSs (run prg k) (refsOf prg) 2000 f27.body [some a0, some a1, none, none, none, none]) := run_eq (d := f27) rfl rfl
theorem r27 : refsOf prg 27 = [false, false] := rfl
theorem e28 (k : Nat) (a0 a1 : T) : run prg (k + 1) 28 [a0, a1] = Krun [false, false] (execSs (run prg k) (refsOf prg) 2000 f28.body [some a0, some a1, none, none, none, none]) := run_eq (d := f28) rfl rfl
theorem r28 : refsOf prg 28 = [false, false] := rfl
theorem e29 (k : Nat) (a0 : T) : run prg (k + 1) 29 [a0] = Krun [false] (execSs (run prg k) (refsOf prg) 2000 f29.body [some a0, none, none, none]) := run_eq (d := f29) rfl rfl
theorem r29 : refsOf prg 29 = [false] := rfl
theorem e30 (k : Nat) (a0 : T) : run prg (k + 1) 30 [a0] = Krun [false] (execSs (run prg k) (refsOf prg) 2000 f30.body [some a0, none, none, none, none, none, none, none]) := run_eq (d := f30) rfl rfl
theorem r30 : refsOf prg 30 = [false] := rfl
theorem e31 (k : Nat) : run prg (k + 1) 31 [] = Krun [] (execSs (run prg k) (refsOf prg) 2000 f31.body [none]) := run_eq (d := f31) rfl rfl
theorem r31 : refsOf prg 31 = [] := rfl
theorem e32 (k : Nat) (a0 : T) : run prg (k + 1) 32 [a0] = Krun [true] (execSs (run prg k) (refsOf prg) 2000 f32.body [some a0, none, none, none, none, none, none, none, none, none, none, none, none, none, none, none, none]) := run_eq (d := f32) rfl rfl
theorem r32 : refsOf prg 32 = [true] := rfl
theorem e33 (k : Nat) (a0 a1 : T) : run prg (k + 1) 33 [a0, a1] = Krun [false, false] (execSs (run prg k) (refsOf prg) 2000 f33.body [some a0, some a1, none, none, none, none, none, none, none, none]) := run_eq (d := f33) rfl rfl
theorem r33 : refsOf prg 33 = [false, false] := rfl
theorem e34 (k : Nat) (a0 a1 a2 : T) : run prg (k + 1) 34 [a0, a1, a2] = Krun [false, false, false] (execSs (run prg k) (refsOf prg) 2000 f34.body [some a0, some a1, some a2]) := run_eq (d := f34) rfl rfl
theorem r34 : refsOf prg 34 = [false, false, false] := rfl
theorem e35 (k : Nat) (a0 : T) : run prg (k + 1) 35 [a0] = Krun [false] (execSs (run prg k) (refsOf prg) 2000 f35.body [some a0, none]) := run_eq (d := f35) rfl rfl
theorem r35 : refsOf prg 35 = [false] := rfl
theorem e36 (k : Nat) (a0 : T) : run prg (k + 1) 36 [a0] = Krun [false] (execSs (run prg k) (refsOf prg) 2000 f36.body [some a0, none]) := run_eq (d := f36) rfl rfl
theorem r36 : refsOf prg 36 = [false] := rfl
theorem e37 (k : Nat) (a0 : T) : run prg (k + 1) 37 [a0] = Krun [false] (execSs (run prg k) (refsOf prg) 2000 f37.body [some a0, none, none, none, none]) := run_eq (d := f37) rfl rfl
theorem r37 : refsOf prg 37 = [false] := rfl
theorem e38 (k : Nat) (a0 : T) : run prg (k + 1) 38 [a0] = Krun [true] (execSs (run prg k) (refsOf prg) 2000 f38.body [some a0, none, none, none, none, none, none, none, none, none, none, none, none, none, none, none]) := run_eq (d := f38) rfl rfl
theorem r38 : refsOf prg 38 = [true] := rfl
theorem e39 (k : Nat) (a0 : T) : run prg (k + 1) 39 [a0] = Krun [false] (execSs (run prg k) (refsOf prg) 2000 f39.body [some a0, none]) := run_eq (d := f39) rfl rfl
theorem r39 : refsOf prg 39 = [false] := rfl
end K97
end Eng

local macro_rules | `(tactic| simp_arith only [$xs,*]) => `(tactic| simp (implicitDefEqProofs := false) (disch := (first | omega | (simp only [List.length_replicate, List.length_append, List.length_cons, List.length_nil, List.length_set, List.length_map, List.length_range, Eng.toNat_nat]; omega))) only [$xs,*, Eng.toNat_nat, Eng.w_var, Eng.w_var_dat, Eng.w_var_LE, Eng.w_var_LL, Eng.w_var_lst, Eng.w_var_scr, Eng.w_var_dT, Eng.w_var_dK, Eng.w_var2, Eng.w_frz_lst, Eng.w_data_lst, Eng.w_data_dat, Eng.w_datas_nil, Eng.w_datas_cons, Eng.w_datas_LE, Eng.w_map, Eng.w_bind, Eng.w_mv, Eng.w_int, Eng.w_bl, Eng.w_non, Eng.w_str, Eng.w_d_dat, Eng.w_d_LE, Eng.w_d_LL, Eng.w_d_lst, Eng.w_b_bool, Eng.w_K3, Eng.w_KD, Eng.w_KB, Eng.w_bin, Eng.w_K1, Eng.w_K2, Eng.w_un, Eng.w_Ku, Eng.w_and, Eng.w_Ka, Eng.w_Ka2_t, Eng.w_Ka2_f, Eng.w_Ka2, Eng.w_or, Eng.w_Ko, Eng.w_Ko2_t, Eng.w_Ko2_f, Eng.w_Ko2, Eng.w_one, Eng.w_cmp, Eng.w_Kc, Eng.w_cmp2, Eng.w_Kc1, Eng.w_Kc2, Eng.w_Kc3, Eng.w_Kc5, Eng.w_isN, Eng.w_KN, Eng.w_isnN, Eng.w_KnN, Eng.w_ife, Eng.w_Ki, Eng.w_Ki2_t, Eng.w_Ki2_f, Eng.w_Ki2_same, Eng.w_Ki2_int, Eng.w_Ki2_bool, Eng.w_bi, Eng.w_Kbi, Eng.w_tup, Eng.w_Kt, Eng.w_Kt2_0, Eng.w_Kt2_1, Eng.w_Kt2_2, Eng.w_Kt2_3, Eng.w_Kt2_4, Eng.w_Kt2, Eng.w_lstE, Eng.w_Kl_0, Eng.w_Kl_1, Eng.w_Kl_2, Eng.w_Kl_3, Eng.w_Kl_4, Eng.w_Kl, Eng.w_f_dat, Eng.w_f_LE, Eng.w_f_LL, Eng.w_f_lst, Eng.w_f_scr, Eng.w_f_dT, Eng.w_f_dK, Eng.w_idx_v, Eng.w_idx_p, Eng.w_idx_e, Eng.w_Kx1, Eng.w_Kx2, Eng.w_Kxp, Eng.w_Kxe1, Eng.w_Kxe2, Eng.w_itemAt, Eng.w_Kit, Eng.w_KI_n, Eng.w_KI_s, Eng.w_Kput, Eng.w_at_v, Eng.w_at_p, Eng.w_Kat, Eng.w_Kat2, Eng.w_pureIs_nil, Eng.w_pureIs_cons, Eng.w_pureI_int, Eng.w_pureI_var, Eng.w_KpI, Eng.w_pureI_bin, Eng.w_pureI_neg, Eng.w_pureK, Eng.w_KpK_int, Eng.w_KpK_bool, Eng.w_KpK_tup, Eng.w_KpK_str, Eng.w_KpK_non, Eng.w_pureD_var, Eng.w_KpD, Eng.w_pureD_bl, Eng.w_pureD_non, Eng.w_pureD_nil, Eng.w_pureD_int, Eng.w_pureD_bin, Eng.w_pureD_un, Eng.w_pureDs_nil, Eng.w_pureDs_cons, Eng.w_pureO_no, Eng.w_pureO_yes, Eng.w_look, Eng.w_look_dat, Eng.w_look_LE, Eng.w_look_lst, Eng.w_flatT_nil, Eng.w_flatT_cons, Eng.w_look_scr, Eng.w_look_dT, Eng.w_look_dK, Eng.w_put_v, Eng.w_put_p, Eng.w_Kpp, Eng.w_Kpp2, Eng.w_Kpt, Eng.w_slc_v, Eng.w_slc_p, Eng.w_slc_e, Eng.w_Ks1, Eng.w_Ks2, Eng.w_Ks3, Eng.w_Ks4, Eng.w_Kse1, Eng.w_Kse2, Eng.w_Kse3, Eng.w_Ksp, Eng.w_O_no, Eng.w_O_yes, Eng.w_Kop, Eng.w_meth, Eng.w_Km1_v, Eng.w_Km1_p, Eng.w_Km2, Eng.w_methAt, Eng.w_Kma, Eng.w_Km3, Eng.w_meK_append, Eng.w_meK_append', Eng.w_meK_append'', Eng.w_meK_extend, Eng.w_meK_extend'', Eng.w_meK_pop, Eng.w_meK_pop'', Eng.w_meK_popAt, Eng.w_meK_popAt'', Eng.w_meK_get1K, Eng.w_meK_get1T, Eng.w_meK_get2K, Eng.w_meK_get2T, Eng.w_comp, Eng.w_Kcm2, Eng.w_Kcm3, Eng.w_dnewT, Eng.w_dnewK, Eng.w_d1, Eng.w_Kd1, Eng.w_Kd2_T, Eng.w_Kd2_K, Eng.w_call, Eng.w_Kcl, Eng.w_Kcb, Eng.w_Kcb2, Eng.w_lend_nil, Eng.w_lend_ref, Eng.w_Kld, Eng.w_Kld2, Eng.w_lend_val, Eng.w_gb_nil, Eng.w_gb_ref, Eng.w_gb_val, Eng.w_patt_nil, Eng.w_patt_ref, Eng.w_patt_val, Eng.w_callK, Eng.w_Kck1, Eng.w_Kck2', Eng.w_Kck3', Eng.w_callKW, Eng.w_Kck4_n, Eng.w_Kck4_f, Eng.w_Kck2_1, Eng.w_Kck2_01, Eng.w_Kck2_10, Eng.w_Kck2_012, Eng.w_Kck2_021, Eng.w_Kck2_102, Eng.w_Kck2_120, Eng.w_Kck2_201, Eng.w_Kck2_210, Eng.w_Kck2_0123, Eng.w_Kck2_0132, Eng.w_Kck2_0213, Eng.w_Kck2_0231, Eng.w_Kck2_0312, Eng.w_Kck2_0321, Eng.w_Kck2_1023, Eng.w_Kck2_1032, Eng.w_Kck2_1203, Eng.w_Kck2_1230, Eng.w_Kck2_1302, Eng.w_Kck2_1320, Eng.w_Kck2_2013, Eng.w_Kck2_2031, Eng.w_Kck2_2103, Eng.w_Kck2_2130, Eng.w_Kck2_2301, Eng.w_Kck2_2310, Eng.w_Kck2_3012, Eng.w_Kck2_3021, Eng.w_Kck2_3102, Eng.w_Kck2_3120, Eng.w_Kck2_3201, Eng.w_Kck2_3210, Eng.w_Kck3, Eng.w_Es_nil, Eng.w_Es_cons, Eng.w_KEs, Eng.w_KEs2, Eng.w_As_nil, Eng.w_As_val, Eng.w_KAs, Eng.w_As_ref, Eng.w_KAr, Eng.w_V1, Eng.w_KV1, Eng.w_V2e, Eng.w_KV2, Eng.w_KV3, Eng.w_V2pp, Eng.w_V2v, Eng.w_V2p, Eng.w_KVp1, Eng.w_KVp2, Eng.w_B_p, Eng.w_B_e, Eng.w_If_nil, Eng.w_If_cons, Eng.w_KIf1, Eng.w_KIf2, Eng.w_S_seq, Eng.w_KS1, Eng.w_seqD_DE, Eng.w_seqD_TE, Eng.w_seqD_l, Eng.w_seqD_t, Eng.w_S_rng1, Eng.w_Krg1, Eng.w_S_rng2, Eng.w_Krg2, Eng.w_Krg2b, Eng.w_S_rng3, Eng.w_Krg3, Eng.w_Krg3b, Eng.w_S_enum, Eng.w_Ken, Eng.w_S_zip, Eng.w_Kzp1, Eng.w_Kzp2_l, Eng.w_Kzp2_t, Eng.w_Kzp2_l', Eng.w_Kzp2_t', Eng.w_T_nm, Eng.w_T_tp, Eng.w_T_p2, Eng.w_T_subv, Eng.w_T_subp, Eng.w_Ksb1, Eng.w_Ksb2, Eng.w_Ksbp, Eng.w_storeAt, Eng.w_Kst, Eng.w_Ksb3, Eng.w_Ts_nil, Eng.w_Ts_cons, Eng.w_Kts, Eng.w_asg, Eng.w_Kasg, Eng.w_Knx, Eng.w_par, Eng.w_parT, Eng.w_Kp1, Eng.w_Kp2, Eng.w_par3, Eng.w_Kq1, Eng.w_Kq2, Eng.w_Kq3, Eng.w_expr, Eng.w_Kex, Eng.w_if, Eng.w_Kif_t, Eng.w_Kif_f, Eng.w_for, Eng.w_Kfor, Eng.w_while, Eng.w_ret, Eng.w_Kret, Eng.w_retN, Eng.w_brk, Eng.w_cont, Eng.w_pas, Eng.w_Ss_nil, Eng.w_Ss_cons, Eng.w_Kseq_nx, Eng.w_Kseq_rt, Eng.w_Kseq_bk, Eng.w_Kseq_ct, Eng.w_Krun_rt, Eng.w_Krun_nx, Eng.w_fin_nil, Eng.w_fin_t, Eng.w_fin_f, Eng.w_get_0, Eng.w_get_s, Eng.w_set_0, Eng.w_set_s, Eng.w_add, Eng.w_sub, Eng.w_mulL, Eng.w_mulR, Eng.w_mulI, Eng.w_fdiv, Eng.w_mod, Eng.w_shl, Eng.w_shr, Eng.w_pow, Eng.w_band, Eng.w_bor, Eng.w_iadd, Eng.w_isub, Eng.w_neg, Eng.w_not, Eng.w_cmpTs, Eng.w_eqI, Eng.w_neI, Eng.w_ltI, Eng.w_leI, Eng.w_gtI, Eng.w_geI, Eng.w_addDD, Eng.w_addTT, Eng.w_rep1I, Eng.w_item_l0, Eng.w_item_t, Eng.w_item_l, Eng.w_at_0, Eng.w_at_1, Eng.w_at_2, Eng.w_item_lst0, Eng.w_item_lst1, Eng.w_item_lst2, Eng.w_item_lst3, Eng.w_item_lst4, Eng.w_getP_nil, Eng.w_getP_lst0, Eng.w_getP_lst1, Eng.w_getP_lst2, Eng.w_getP_tup0, Eng.w_getP_tup1, Eng.w_gp2_0, Eng.w_gp2_1, Eng.w_ip2_0, Eng.w_ip2_1, Eng.w_setP_nil, Eng.w_set_LLE, Eng.w_setP_lst0, Eng.w_setP_lst1, Eng.w_store_LEI, Eng.w_store_LE, Eng.w_store_lst0, Eng.w_store_lst1, Eng.w_store_lst2, Eng.w_item_DEl, Eng.w_getP_DEl, Eng.w_item_TEl, Eng.w_getP_TEl, Eng.w_item_LEl, Eng.w_getP_LEl, Eng.w_itemN_DEl, Eng.w_itemN_LEl, Eng.w_item_DEi, Eng.w_getP_DEi, Eng.w_item_TEi, Eng.w_getP_TEi, Eng.w_item_LEi, Eng.w_getP_LEi, Eng.w_itemN_DEi, Eng.w_itemN_LEi, Eng.w_item_DEn, Eng.w_getP_DEn, Eng.w_item_TEn, Eng.w_getP_TEn, Eng.w_item_LEn, Eng.w_getP_LEn, Eng.w_itemN_DEn, Eng.w_itemN_LEn, Eng.w_item_DEb, Eng.w_getP_DEb, Eng.w_item_TEb, Eng.w_getP_TEb, Eng.w_item_LEb, Eng.w_getP_LEb, Eng.w_itemN_DEb, Eng.w_itemN_LEb, Eng.w_getP_LLl, Eng.w_setP_LLl, Eng.w_store_LEN, Eng.w_append_LEI, Eng.w_append_LE, Eng.w_append_LEN, Eng.w_dN, Eng.w_append_DE, Eng.w_append_lst, Eng.w_pop_LE, Eng.w_extend_LE, Eng.w_len_DE, Eng.w_len_TE, Eng.w_len_l, Eng.w_len_t, Eng.w_len_scr, Eng.w_len_K, Eng.w_len_T, Eng.w_absI, Eng.w_min2, Eng.w_max2, Eng.w_sum, Eng.w_minL, Eng.w_maxL, Eng.w_all, Eng.w_any, Eng.w_tupleD, Eng.w_tupleT, Eng.w_listD, Eng.w_listT, Eng.w_revl, Eng.w_intI, Eng.w_intB, Eng.w_gcd, Eng.w_oE_n, Eng.w_oE_s, Eng.w_isN_int, Eng.w_isN_non, Eng.w_isN_DE, Eng.w_isN_TE, Eng.w_isN_tup, Eng.w_isN_bool, Eng.w_neNil, Eng.w_eqNil, Eng.w_inDEI, Eng.w_inTEI, Eng.w_ninDEI, Eng.w_ninTEI, Eng.w_toKey, Eng.w_eq2, Eng.w_ne2, Eng.w_slice_scr, Eng.w_istupT, Eng.w_istupE, Eng.w_istupI, Eng.w_istupN, Eng.w_istupB, Eng.w_isintI, Eng.w_isintB, Eng.w_isboolI, Eng.w_isboolB, Eng.w_inK, Eng.w_ninK, Eng.w_itemK, Eng.w_own_nil, Eng.w_own_cons, Eng.w_kO_n, Eng.w_kO_d, Eng.w_wipe_nil, Eng.w_wipe_cons, Eng.w_back_nil, Eng.w_back_cons, Eng.w_and_t, Eng.w_and_f, Eng.w_or_t, Eng.w_and_ff, Eng.w_and_tt, Eng.w_or_tt, Eng.w_or_ff, Eng.w_or_f, Eng.w_Step_nx, Eng.w_Step_ct, Eng.w_Step_bk, Eng.w_Step_rt, Eng.w_Then_nx, Eng.w_Then_ct, Eng.w_Then_bk, Eng.w_Then_rt, Eng.w_go_some, Eng.w_End_rt, Eng.w_End_nx, Eng.w_ite_t, Eng.w_ite_f, Eng.w_if_T, Eng.w_if_F, Eng.w_map_c, Eng.w_map_n, Eng.w_nab, Eng.w_tn0, Eng.w_tn1, Eng.w_tn2, Eng.w_tn3, Eng.w_dt, Eng.w_df, Eng.w_em_c, Eng.w_em_n, Eng.w_nt, Eng.w_nf, Eng.w_web0, Eng.w_web1, Eng.w_gweb0, Eng.w_gweb1, Eng.w_get2T, Eng.w_storeT, Eng.w_sortedT, Eng.w_w3i2, Eng.w_w3p0, Eng.w_w3p1, Eng.w_isN_nE, Eng.w_repNon, Eng.w_store_nE, Eng.K97.r0, Eng.K97.r1, Eng.K97.r2, Eng.K97.r3, Eng.K97.r4, Eng.K97.r5, Eng.K97.r6, Eng.K97.r7, Eng.K97.r8, Eng.K97.r9, Eng.K97.r10, Eng.K97.r11, Eng.K97.r12, Eng.K97.r13, Eng.K97.r14, Eng.K97.r15, Eng.K97.r16, Eng.K97.r17, Eng.K97.r18, Eng.K97.r19, Eng.K97.r20, Eng.K97.r21, Eng.K97.r22, Eng.K97.r23, Eng.K97.r24, Eng.K97.r25, Eng.K97.r26, Eng.K97.r27, Eng.K97.r28, Eng.K97.r29, Eng.K97.r30, Eng.K97.r31, Eng.K97.r32, Eng.K97.r33, Eng.K97.r34, Eng.K97.r35, Eng.K97.r36, Eng.K97.r37, Eng.K97.r38, Eng.K97.r39])

/-! ### T1 -/
namespace Eng
namespace K97
open PySem L2
theorem rows_from_ok (k : Nat) (near : List (List Nat)) (p : Nat) (hp : p < near.length) (hn : ∀ y, ∀ x ∈ near.getD y [], x < near.length) (hl : near.length < 1000) :
    Go (run prg (k + 1) 1 [.dat (DE (DE dN) near), .dat (.int p)]) fun r => ∃ F : List Int, r = (.dat (DE .int F), [none, none]) ∧ DistQ (Adj near fun _ _ => true) p near.length F := by
  rw [e1]
  apply go_run
  simp_arith only [f1]
  apply go_seq
  refine while_go (fun m s => ∃ (k : Nat) (F : List Int) (M : List Nat) (t : T) (o4 o5 o6 : Option T), s = [some (.dat (DE (DE dN) near)), some (.dat (.int p)), some (LE .int F), some t, o4, o5, o6] ∧ Sq dN M t ∧ BsQ (Adj near fun _ _ => true) p near.length k F M ∧ m = negs F + (if M = [] then 0 else 1)) ?_ ?_
  · refine ⟨_, ?_, 0, _, [p], _, _, _, _, rfl, .own, bs_start hp, rfl⟩
    have := negs_le ((List.replicate near.length (-1)).set p 0)
    simp at this ⊢
    omega
  · rintro m s ⟨k, F, M, t, o4, o5, o6, rfl, hM, hB, rfl⟩
    rcases hM with rfl | rfl
    all_goals
      simp_arith only [w_neNil Dep.dN (by decide)]
      cases M with
      | nil => 
        simp_arith only [toNat_nat]
        exact ⟨F, rfl, bs_end hp (fun y x h => hn y x h.1) hB (.inl rfl)⟩
      | cons y M => 
        simp_arith only [toNat_nat]
        apply go_seq
        have hE : ∀ pre, (∀ x ∈ pre, x ∈ y :: M) → ∀ e ∈ outs near pre, e.2 < F.length := fun pre _ e m => by rw [hB.len]; exact hn _ _ (mem_outs.mp m).2
        refine for_pre (fun pre s => ∃ F' L o5 o6, s = [some (.dat (DE (DE dN) near)), some (.dat (.int p)), some (LE .int F'), some (.dat (DE dN (y :: M))), some (LE dN L), o5, o6] ∧ (F', L) = (outs near pre).foldl (bst k fun _ _ => true) (F, [])) ?_ ?_ ?_
        · exact ⟨F, [], _, _, rfl, rfl⟩
        · rintro pre x rest e s ⟨F', L, o5, o6, rfl, hF⟩
          have hx := (hB.mem x).mp (by rw [e]; simp)
          have hx1 := hx.1
          simp_arith only [toNat_nat]
          apply go_seq
          refine for_pre (fun pr s => ∃ F' L o6, s = [some (.dat (DE (DE dN) near)), some (.dat (.int p)), some (LE .int F'), some (.dat (DE dN (y :: M))), some (LE dN L), some (.dat (.int x)), o6] ∧ (F', L) = (outs near pre ++ pr.map fun z => (x, z)).foldl (bst k fun _ _ => true) (F, [])) ?_ ?_ ?_
          · exact ⟨F', L, _, rfl, by simpa using hF⟩
          · rintro pr z rs e' s ⟨F2, L2, o6, rfl, hF2⟩
            have hz : z < near.length := hn x z (by rw [e']; simp)
            have hb : ∀ e ∈ outs near pre ++ pr.map fun z => (x, z), e.2 < F.length := fun e m => by
              rcases List.mem_append.mp m with m | m
              · rw [hB.len]; exact hn _ _ (mem_outs.mp m).2
              · obtain ⟨z', m', rfl⟩ := List.mem_map.mp m
                rw [hB.len]; exact hn x z' (by rw [e']; simp [m'])
            have Q := bst_fold (k := (k : Int)) (ok := fun _ _ => true) (by omega) _ F [] hb
            have N := bst_negs (k := (k : Int)) (ok := fun _ _ => true) (by omega) _ F [] hb
            rw [← hF2] at Q N
            have l1 := Q.len
            have l2 := hB.len
            have l3 := negs_le F
            simp only [List.length_nil, Nat.add_zero] at N l1
            have fx : F2.getD x 0 = k := by
              have := (hB.pos x hx1 k).mpr ⟨hx.2, Nat.le_refl _⟩
              rw [Q.old x (by omega), this]
            simp_arith only [toNat_nat]
            by_cases hneg : F2.getD z 0 < 0
            · simp_arith only [hneg, decide_true, fx]
              refine ⟨_, _, _, rfl, ?_⟩
              rw [List.map_append, ← List.append_assoc, List.foldl_append, ← hF2]
              simp only [List.map_cons, List.map_nil, List.foldl_cons, List.foldl_nil, bst]; rw [if_pos ⟨hneg, trivial⟩]
            · simp_arith only [hneg, decide_false]
              refine ⟨_, _, _, rfl, ?_⟩
              rw [List.map_append, ← List.append_assoc, List.foldl_append, ← hF2]
              simp only [List.map_cons, List.map_nil, List.foldl_cons, List.foldl_nil, bst]; rw [if_neg (fun h => hneg h.1)]
          · rintro s ⟨F2, L2, o6, rfl, hF2⟩
            simp_arith only [toNat_nat]
            exact ⟨F2, L2, _, _, rfl, by rw [outs_app, outs_one]; exact hF2⟩
        · rintro s ⟨F2, L2, o5, o6, rfl, hF2⟩
          simp_arith only [toNat_nat]
          have hS := bs_step hp hn hB
          have hb : ∀ e ∈ outs near (y :: M), e.2 < F.length := fun e m => by rw [hB.len]; exact hn _ _ (mem_outs.mp m).2
          have N := bst_negs (k := (k : Int)) (ok := fun _ _ => true) (by omega) _ F [] hb
          rw [← hF2] at hS N
          refine ⟨_, ?_, k + 1, F2, L2, _, _, _, _, rfl, .dat, hS, rfl⟩
          simp at N ⊢
          cases L2 <;> simp at N ⊢ <;> omega
theorem rows_from_eq (k : Nat) (near : List (List Nat)) (p : Nat) (hp : p < near.length) (hn : ∀ y, ∀ x ∈ near.getD y [], x < near.length) (hl : near.length < 1000) :
    run prg (k + 1) 1 [.dat (DE (DE dN) near), .dat (.int p)] = some (.dat (DE .int (bfs near (fun _ _ => true) p)), [none, none]) := by
  obtain ⟨r, e, F, rfl, h⟩ := rows_from_ok k near p hp hn hl
  rw [e, h.uniq (bfs_ok hp hn)]
end K97
end Eng


/-! ### T2 -/
namespace Eng
namespace K97
open PySem L2
--{ partners
theorem partners_ok (k : Nat) (n : Nat) (ties : List (Nat × Nat)) (hb : InN n ties) (hn : n < 1000) (hl : ties.length < 10000) :
    run prg (k + 1) 0 [.dat (web n ties)] = some (.dat (DE (DE dN) (nearOf n ties)), [none]) := by
  apply go_eq
  rw [e0]
  apply go_run
  simp_arith only [f0]
  rw [comp_all (g := fun _ => .lst []) (by simp; omega) rfl (fun x hx => by simp_arith only [toNat_nat]; first | done | trivial | (refine ⟨?_, ?_⟩ <;> first | rfl | trivial)), show T.lst ((List.range n).map fun _ => T.lst []) = LL (LE dN) (List.replicate n []) by rw [List.map_const', List.length_range]; simp [LL, LE]]
  simp_arith only [toNat_nat]
  apply go_seq
  refine for_pre (fun pre s => ∃ o2 o3, s = [some (.dat (web n ties)), some (LL (LE dN) (nearOf n pre)), o2, o3, none]) ?_ ?_ ?_
  · exact ⟨_, _, rfl⟩
  · rintro pre e rest he s ⟨o2, o3, rfl⟩
    have hb' : InN n pre := fun e' h => hb e' (by rw [he]; simp [h])
    have h1 := (hb e (by rw [he]; simp)).1
    have h2 := (hb e (by rw [he]; simp)).2
    have l1 := nearOf_len n pre
    have l3 : pre.length < 10000 := by rw [he] at hl; simp at hl; omega
    have l4 := nearOf_row hb' e.1
    have l5 : (((nearOf n pre).set e.1 ((nearOf n pre).getD e.1 [] ++ [e.2])).getD e.2 []).length < 1000000 := by
      have := nearOf_row hb' e.2
      rw [getD_set _ _ _ _ _ (by omega)]
      split <;> (try simp only [List.length_append, List.length_cons, List.length_nil]) <;> omega
    simp_arith only [l1]
    rw [show nearOf n (pre ++ [e]) = addTie (nearOf n pre) e by simp [nearOf]]
    exact ⟨_, _, rfl⟩
  · rintro s ⟨o2, o3, rfl⟩
    simp_arith only [toNat_nat]
--}
theorem near_lists_ok (k : Nat) (n : Nat) (ties : List (Nat × Nat)) (hb : InN n ties) (hn : n < 1000) (hl : ties.length < 10000) :
    run prg (k + 1) 4 [.dat (web n ties)] = some (.dat (DE (DE dN) (nearOf n ties)), [none]) := by
  apply go_eq
  rw [e4]
  apply go_run
  simp_arith only [f4]
  rw [comp_all (g := fun _ => .lst []) (by simp; omega) rfl (fun x hx => by simp_arith only [toNat_nat]; first | done | trivial | (refine ⟨?_, ?_⟩ <;> first | rfl | trivial)), show T.lst ((List.range n).map fun _ => T.lst []) = LL (LE dN) (List.replicate n []) by rw [List.map_const', List.length_range]; simp [LL, LE]]
  simp_arith only [toNat_nat]
  apply go_seq
  refine for_pre (fun pre s => ∃ o2 o3, s = [some (.dat (web n ties)), some (LL (LE dN) (nearOf n pre)), o2, o3, none]) ?_ ?_ ?_
  · exact ⟨_, _, rfl⟩
  · rintro pre e rest he s ⟨o2, o3, rfl⟩
    have hb' : InN n pre := fun e' h => hb e' (by rw [he]; simp [h])
    have h1 := (hb e (by rw [he]; simp)).1
    have h2 := (hb e (by rw [he]; simp)).2
    have l1 := nearOf_len n pre
    have l3 : pre.length < 10000 := by rw [he] at hl; simp at hl; omega
    have l4 := nearOf_row hb' e.1
    have l5 : (((nearOf n pre).set e.1 ((nearOf n pre).getD e.1 [] ++ [e.2])).getD e.2 []).length < 1000000 := by
      have := nearOf_row hb' e.2
      rw [getD_set _ _ _ _ _ (by omega)]
      split <;> (try simp only [List.length_append, List.length_cons, List.length_nil]) <;> omega
    simp_arith only [l1]
    rw [show nearOf n (pre ++ [e]) = addTie (nearOf n pre) e by simp [nearOf]]
    exact ⟨_, _, rfl⟩
  · rintro s ⟨o2, o3, rfl⟩
    simp_arith only [toNat_nat]
theorem rows_from_web (k : Nat) {n : Nat} {ties : List (Nat × Nat)} (hb : InN n ties) (hn : n < 1000) {p : Nat} (hp : p < n) :
    run prg (k + 1) 1 [.dat (DE (DE dN) (nearOf n ties)), .dat (.int p)] = some (.dat (DE .int (rowOf n ties p)), [none, none]) :=
  rows_from_eq k _ p (by rw [nearOf_len]; exact hp) (by rw [nearOf_len]; exact nearOf_lt hb) (by rw [nearOf_len]; exact hn)
theorem all_rows_ok (k : Nat) (n : Nat) (ties : List (Nat × Nat)) (hb : InN n ties) (h0 : 0 < n) (hn : n < 1000) (hl : ties.length < 10000) :
    run prg (k + 2) 2 [.dat (web n ties)] = some (if -1 ∈ rowOf n ties 0 then .dat .none else .dat (DE (DE .int) ((List.range n).map (rowOf n ties))), [none]) := by
  apply go_eq
  rw [e2]
  apply go_run
  have hp := partners_ok k n ties hb hn hl
  simp_arith only [f2, hp]
  rw [comp_all (g := fun p => .dat (DE .int (rowOf n ties p))) (by simp; omega) rfl (fun p hx => by
    have := rows_from_web k hb hn (List.mem_range.mp hx)
    exact by simp_arith only [this]; first | done | trivial | (refine ⟨?_, ?_⟩ <;> first | rfl | trivial)), lst_LE (f := DE .int) (g := rowOf n ties)]
  have e0 : ((List.range n).map (rowOf n ties)).getD 0 [] = rowOf n ties 0 := by
    rw [List.getD_eq_getElem?_getD, List.getElem?_map, List.getElem?_range h0]; rfl
  by_cases h : -1 ∈ rowOf n ties 0
  · simp_arith only [e0, h]
  · simp_arith only [e0, h]
theorem web_width_ok (k : Nat) (n : Nat) (ties : List (Nat × Nat)) (hb : InN n ties) (h0 : 0 < n) (hn : n < 1000) (hl : ties.length < 10000) :
    run prg (k + 3) 3 [.dat (web n ties)] = some (.dat (oE .int (widthN n ties)), [none]) := by
  apply go_eq
  rw [e3]
  apply go_run
  have hr := all_rows_ok k n ties hb h0 hn hl
  simp_arith only [f3, hr]
  by_cases h : -1 ∈ rowOf n ties 0
  · simp_arith only [h, widthN, oE]
  · simp_arith only [h, widthN]
    rw [comp_all (enc := DE .int) (g := fun F => .dat (.int ((maxI F).getD 0))) (by simp; omega) rfl (fun F hx => by
      obtain ⟨p, hp, rfl⟩ := List.mem_map.mp hx
      have hp := List.mem_range.mp hp
      have hl : rowOf n ties p ≠ [] := fun e => by
        have := (row_ok hb hp).len
        rw [e] at this; simp at this; omega
      obtain ⟨m, hm, _⟩ := maxI_mem hl
      exact by simp_arith only [hm, Option.getD_some]; first | done | trivial | (refine ⟨?_, ?_⟩ <;> first | rfl | trivial)), lst_LE (f := .int) (g := fun F => (maxI F).getD 0), List.map_map]
    obtain ⟨m, hm, _⟩ := maxI_mem (xs := (List.range n).map fun p => (maxI (rowOf n ties p)).getD 0) (by simp; omega)
    have hm' : maxI ((List.range n).map ((fun F => (maxI F).getD 0) ∘ rowOf n ties)) = some m := hm
    simp_arith only [hm, hm', oE, w_dN]
end K97
end Eng


/-! ### T3 -/
namespace Eng
/-- the heads that stand beside the numbers -/
structure HdQ (n one : Nat) (F : List Int) (H : List (Nat × Option Nat)) : Prop where
  len : H.length + negs F = n
  key : ∀ x < n, (lk H x).isSome = decide (0 ≤ F.getD x 0)
  val : ∀ x o, lk H x = some o → x < n ∧ ((o = none ∧ F.getD x 0 = 0) ∨ ∃ y, o = some y ∧ y < n ∧ 0 ≤ F.getD y 0 ∧ F.getD x 0 = F.getD y 0 + 1)
theorem HdQ.start {n one : Nat} (h : one < n) : HdQ n one ((List.replicate n (-1)).set one 0) [(one, none)] := by
  have gd : ∀ x < n, ((List.replicate n (-1 : Int)).set one 0).getD x 0 = if one = x then 0 else -1 := fun x hx => by
    rw [getD_set _ _ _ _ _ (by simpa using h)]
    split
    · rfl
    · rw [List.getD_eq_getElem?_getD, List.getElem?_replicate, if_pos hx]; rfl
  refine ⟨?_, fun x hx => ?_, fun x o hx => ?_⟩
  · have h0 : ((List.replicate n (-1 : Int)).getD one 0) < 0 := by
      rw [List.getD_eq_getElem?_getD, List.getElem?_replicate, if_pos h]; decide
    have := countP_set (F := List.replicate n (-1)) (x := one) (v := 0) (by simpa using h) h0 (by decide)
    have e : negs (List.replicate n (-1)) = n := by
      have : List.countP (fun x : Int => decide (x < 0)) (List.replicate n (-1)) = (List.replicate n (-1 : Int)).length := List.countP_eq_length.mpr (fun a m => by rw [(List.mem_replicate.mp m).2]; rfl)
      simpa [negs] using this
    rw [e] at this
    simp; omega
  · rw [gd x hx]
    by_cases e : one = x
    · subst e; simp [lk]
    · simp [lk, e]
  · have := lk_mem hx
    simp at this
    obtain ⟨rfl, rfl⟩ := this
    exact ⟨h, .inl ⟨rfl, by rw [gd _ h]; simp⟩⟩
theorem HdQ.step {n one : Nat} {F : List Int} {H : List (Nat × Option Nat)} (h : HdQ n one F H) (hl : F.length = n) {x y : Nat} {k : Nat} (hx : x < n) (hy : y < n) (hF : F.getD x 0 < 0) (hk : F.getD y 0 = k) : HdQ n one (F.set x (k + 1)) (H ++ [(x, some y)]) := by
  have gd : ∀ z, (F.set x ((k : Int) + 1)).getD z 0 = if x = z then (k : Int) + 1 else F.getD z 0 := fun z => getD_set _ _ _ _ _ (by omega)
  have hn : lk H x = none := by
    have := h.key x hx
    rw [show decide (0 ≤ F.getD x 0) = false by simp; simpa using hF] at this
    simpa using this
  refine ⟨?_, fun z hz => ?_, fun z o hz => ?_⟩
  · have := countP_set (F := F) (x := x) (v := (k : Int) + 1) (by omega) hF (by omega)
    have := h.len
    simp; omega
  · rw [lk_app, gd]
    have := h.key z hz
    by_cases e : x = z
    · subst e; simp [hn]; omega
    · simp only [e, if_false, Option.or_none]; exact this
  · rw [lk_app] at hz
    by_cases e : x = z
    · subst e
      rw [hn] at hz
      simp at hz
      subst hz
      have ne : x ≠ y := fun e => by subst e; omega
      exact ⟨hx, .inr ⟨y, rfl, hy, by rw [gd, if_neg ne]; omega, by rw [gd, gd, if_pos rfl, if_neg ne, hk]⟩⟩
    · simp only [e, if_false, Option.or_none] at hz
      obtain ⟨h1, h2⟩ := h.val z o hz
      refine ⟨h1, ?_⟩
      rcases h2 with ⟨rfl, h2⟩ | ⟨y', rfl, h3, h4, h5⟩
      · exact .inl ⟨rfl, by rw [gd, if_neg e]; exact h2⟩
      · have ne : x ≠ y' := fun e' => by subst e'; omega
        exact .inr ⟨y', rfl, h3, by rw [gd, if_neg ne]; exact h4, by rw [gd, gd, if_neg e, if_neg ne]; exact h5⟩
namespace K97
open PySem L2
theorem heads_behind_ok (k : Nat) (near : List (List Nat)) (p q : Nat) (hp : p < near.length) (hn : ∀ y, ∀ x ∈ near.getD y [], x < near.length) (hl : near.length < 1000) :
    Go (run prg (k + 1) 5 [.dat (DE (DE dN) near), .dat (.int p), .dat (.int q)]) fun r => ∃ H, r = (.dK true (kv (oE dN) H), [none, none, none]) ∧ HdQ near.length p (bfs near (butTie p q) p) H := by
  rw [e5]
  apply go_run
  simp_arith only [f5]
  apply go_seq
  have hp0 : bfs near (butTie p q) p = bfsGo near (butTie p q) near.length 0 ((List.replicate near.length (-1)).set p 0) [p] := rfl
  refine while_go (fun m s => ∃ (k : Nat) (F : List Int) (M : List Nat) (H : List (Nat × Option Nat)) (t : T) (o5 o6 o7 : Option T), s = [some (.dat (DE (DE dN) near)), some (.dat (.int p)), some (.dat (.int q)), some (.dK false (kv (oE dN) H)), some t, o5, o6, o7] ∧ Sq dN M t ∧ BsQ (Adj near (butTie p q)) p near.length k F M ∧ HdQ near.length p F H ∧ m = negs F + (if M = [] then 0 else 1)) ?_ ?_
  · refine ⟨_, ?_, 0, _, [p], [(p, none)], _, _, _, _, rfl, .own, bs_start hp, HdQ.start hp, rfl⟩
    have := negs_le ((List.replicate near.length (-1)).set p 0)
    simp at this ⊢
    omega
  · rintro m s ⟨k, F, M, H, t, o5, o6, o7, rfl, hM, hB, hH, rfl⟩
    rcases hM with rfl | rfl
    all_goals
      simp_arith only [w_neNil Dep.dN (by decide)]
      cases M with
      | nil =>
        simp_arith only [toNat_nat]
        exact ⟨H, rfl, by rw [← (bs_end hp (fun y x h => hn y x h.1) hB (.inl rfl)).uniq (bfs_ok hp hn)]; exact hH⟩
      | cons y M =>
        simp_arith only [toNat_nat]
        apply go_seq
        refine for_pre (fun pre s => ∃ F' L H o6 o7, s = [some (.dat (DE (DE dN) near)), some (.dat (.int p)), some (.dat (.int q)), some (.dK false (kv (oE dN) H)), some (.dat (DE dN (y :: M))), some (LE dN L), o6, o7] ∧ HdQ near.length p F' H ∧ (F', L) = (outs near pre).foldl (bst k (butTie p q)) (F, [])) ?_ ?_ ?_
        · exact ⟨F, [], H, _, _, rfl, hH, rfl⟩
        · rintro pre x rest e s ⟨F', L, H, o6, o7, rfl, hH, hF⟩
          have hx := (hB.mem x).mp (by rw [e]; simp)
          have hx1 := hx.1
          simp_arith only [toNat_nat]
          apply go_seq
          refine for_pre (fun pr s => ∃ F' L H o7, s = [some (.dat (DE (DE dN) near)), some (.dat (.int p)), some (.dat (.int q)), some (.dK false (kv (oE dN) H)), some (.dat (DE dN (y :: M))), some (LE dN L), some (.dat (.int x)), o7] ∧ HdQ near.length p F' H ∧ (F', L) = (outs near pre ++ pr.map fun z => (x, z)).foldl (bst k (butTie p q)) (F, [])) ?_ ?_ ?_
          · exact ⟨F', L, H, _, rfl, hH, by simpa using hF⟩
          · rintro pr z rs e' s ⟨F2, L2, H2, o7, rfl, hH2, hF2⟩
            have hz : z < near.length := hn x z (by rw [e']; simp)
            have hb : ∀ e ∈ outs near pre ++ pr.map fun z => (x, z), e.2 < F.length := fun e m => by
              rcases List.mem_append.mp m with m | m
              · rw [hB.len]; exact hn _ _ (mem_outs.mp m).2
              · obtain ⟨z', m', rfl⟩ := List.mem_map.mp m
                rw [hB.len]; exact hn x z' (by rw [e']; simp [m'])
            have Q := bst_fold (k := (k : Int)) (ok := butTie p q) (by omega) _ F [] hb
            have N := bst_negs (k := (k : Int)) (ok := butTie p q) (by omega) _ F [] hb
            rw [← hF2] at Q N
            have l1 := Q.len
            have l2 := hB.len
            have l3 := negs_le F
            have l4 := hH2.len
            simp only [List.length_nil, Nat.add_zero] at N l1
            have fx : F2.getD x 0 = k := by
              have := (hB.pos x hx1 k).mpr ⟨hx.2, Nat.le_refl _⟩
              rw [Q.old x (by omega), this]
            have hk := hH2.key z hz
            have nx : ∀ F3 L3, bst k (butTie p q) (F2, L2) (x, z) = (F3, L3) → (F3, L3) = (outs near pre ++ (pr ++ [z]).map fun z => (x, z)).foldl (bst k (butTie p q)) (F, []) := fun F3 L3 e => by
              rw [List.map_append, ← List.append_assoc, List.foldl_append, ← hF2, ← e]
              rfl
            by_cases hneg : F2.getD z 0 < 0
            · have hk : lk H2 z = none := by
                rw [show decide (0 ≤ F2.getD z 0) = false by simpa using hneg] at hk
                simpa using hk
              have hst := storeK_new (f := oE dN) (v := some x) hk (by omega)
              simp only [oE, w_dN] at hst
              by_cases hbt : butTie p q x z = true
              · have hb2 : (!(decide ((x : Int) = (p : Int)) && decide ((z : Int) = (q : Int)))) = true := by rw [← hbt, butTie]; simp [Int.ofNat_inj]
                simp_arith only [hk, hb2, Option.isSome_none, hst]
                exact ⟨_, _, _, _, rfl, hH2.step (by omega) hz hx1 hneg fx, nx _ _ (by rw [bst, if_pos ⟨hneg, hbt⟩])⟩
              · have hb2 : (!(decide ((x : Int) = (p : Int)) && decide ((z : Int) = (q : Int)))) = false := by
                  rw [Bool.not_eq_true] at hbt
                  rw [← hbt, butTie]; simp [Int.ofNat_inj]
                simp_arith only [hk, hb2, Option.isSome_none]
                exact ⟨_, _, _, _, rfl, hH2, nx _ _ (by rw [bst, if_neg (fun h => hbt h.2)])⟩
            · have hk : (lk H2 z).isSome = true := by rw [hk]; simpa using hneg
              simp_arith only [hk]
              exact ⟨_, _, _, _, rfl, hH2, nx _ _ (by rw [bst, if_neg (fun h => hneg h.1)])⟩
          · rintro s ⟨F2, L2, H2, o7, rfl, hH2, hF2⟩
            simp_arith only [toNat_nat]
            exact ⟨F2, L2, H2, _, _, rfl, hH2, by rw [outs_app, outs_one]; exact hF2⟩
        · rintro s ⟨F2, L2, H2, o6, o7, rfl, hH2, hF2⟩
          simp_arith only [toNat_nat]
          have hS := bs_step hp hn hB
          have hb : ∀ e ∈ outs near (y :: M), e.2 < F.length := fun e m => by rw [hB.len]; exact hn _ _ (mem_outs.mp m).2
          have N := bst_negs (k := (k : Int)) (ok := butTie p q) (by omega) _ F [] hb
          rw [← hF2] at hS N
          refine ⟨_, ?_, k + 1, F2, L2, H2, _, _, _, _, rfl, .dat, hS, hH2, rfl⟩
          simp at N ⊢
          cases L2 <;> simp at N ⊢ <;> omega
theorem way_back_ok (k : Nat) {n p : Nat} {F : List Int} {H : List (Nat × Option Nat)} (hH : HdQ n p F H) {x : Nat} (hx : x < n) (h0 : 0 ≤ F.getD x 0) (hF : F.getD x 0 < 1000) :
    Go (run prg (k + 1) 6 [.dK true (kv (oE dN) H), .dat (.int x)]) fun r => ∃ P : List Nat, r = (.dat (DE dN P), [none, none]) ∧ (P.length : Int) = F.getD x 0 + 1 := by
  rw [e6]
  apply go_run
  simp_arith only [f6]
  apply go_seq
  refine while_go (fun m s => ∃ (o : Option Nat) (P : List Nat), s = [some (.dK true (kv (oE dN) H)), some (.dat (oE dN o)), some (LE dN P)] ∧ (match o with | none => (P.length : Int) = F.getD x 0 + 1 ∧ m = 0 | some y => y < n ∧ 0 ≤ F.getD y 0 ∧ F.getD y 0 ≤ F.getD x 0 ∧ (P.length : Int) = F.getD x 0 - F.getD y 0 ∧ (m : Int) = F.getD y 0 + 1)) ?_ ?_
  · exact ⟨(F.getD x 0 + 1).toNat, by omega, some x, [], rfl, hx, h0, by omega, by simp, by omega⟩
  · rintro m s ⟨o, P, rfl, hP⟩
    cases o with
    | none =>
      simp_arith only [toNat_nat]
      exact ⟨P, rfl, hP.1⟩
    | some y =>
      obtain ⟨hy, h1, h2, h3, h4⟩ := hP
      have hk := hH.key y hy
      rw [decide_eq_true h1] at hk
      obtain ⟨o, ho⟩ := Option.isSome_iff_exists.mp hk
      have hv := (hH.val y o ho).2
      simp_arith only [ho]
      rcases hv with ⟨rfl, hv⟩ | ⟨z, rfl, hz, hz0, hv⟩
      · exact ⟨0, by omega, none, _, rfl, by rw [List.length_append]; simp only [List.length_cons, List.length_nil]; omega, rfl⟩
      · exact ⟨m - 1, by omega, some z, _, rfl, hz, hz0, by omega, by rw [List.length_append]; simp only [List.length_cons, List.length_nil]; omega, by omega⟩
theorem ring_at_tie_ok (k : Nat) {n : Nat} {ties : List (Nat × Nat)} (hb : InN n ties) (hn : n < 999) (e : Nat × Nat) (he : e ∈ ties) :
    Go (run prg (k + 2) 7 [.dat (DE (DE dN) (nearOf n ties)), .dat (p2 dN dN e)]) fun r => ∃ o : Option (List Nat), r = (.dat (oE (TE dN) o), [none, none]) ∧ o.map List.length = ringAt n ties e := by
  have hl := nearOf_len n ties
  have he1 := (hb e he).1
  have he2 := (hb e he).2
  have hlt : ∀ y, ∀ x ∈ (nearOf n ties).getD y [], x < (nearOf n ties).length := by rw [hl]; exact nearOf_lt hb
  obtain ⟨r, e1, H, rfl, hH⟩ := heads_behind_ok k (nearOf n ties) e.1 e.2 (by omega) hlt (by omega)
  rw [hl] at hH
  rw [e7]
  apply go_run
  simp_arith only [f7, p2, e1]
  have hk := hH.key e.2 he2
  by_cases h : (bfs (nearOf n ties) (butTie e.1 e.2) e.1).getD e.2 0 < 0
  · have : decide (0 ≤ (bfs (nearOf n ties) (butTie e.1 e.2) e.1).getD e.2 0) = false := by simpa using h
    rw [this] at hk
    simp_arith only [hk]
    exact ⟨none, rfl, by unfold ringAt; rw [if_pos h]; rfl⟩
  · have : decide (0 ≤ (bfs (nearOf n ties) (butTie e.1 e.2) e.1).getD e.2 0) = true := by simpa using h
    rw [this] at hk
    have hle := bfs_le (ok := butTie e.1 e.2) (p := e.1) (by omega) hlt e.2
    obtain ⟨r, e2, P, rfl, hP⟩ := way_back_ok k hH he2 (by omega) (by omega)
    simp_arith only [hk, e2]
    exact ⟨some P, rfl, by unfold ringAt; rw [if_neg h]; simp only [Option.map_some, Option.some.injEq]; omega⟩
theorem any_ring_ok (k : Nat) {n : Nat} {ties : List (Nat × Nat)} (hb : InN n ties) (hn : n < 999) (hl : ties.length < 10000) :
    Go (run prg (k + 3) 8 [.dat (web n ties)]) fun r => ∃ o : Option (List Nat), r = (.dat (oE (TE dN) o), [none]) ∧ o.map List.length = ringN n ties := by
  have hnl := near_lists_ok (k + 1) n ties hb (by omega) hl
  rw [e8]
  apply go_run
  simp_arith only [f8, hnl]
  apply go_seq
  refine for_pre (fun pre s => ∃ (o : Option (List Nat)), ∃ (o_tie o_ring : Option T), s = [some (.dat (web n ties)), o_tie, some (.dat (DE (DE dN) (nearOf n ties))), some (.dat (oE (TE dN) o)), o_ring] ∧ o.map List.length = pre.foldl (fun o e => minO o (ringAt n ties e)) none) ?_ ?_ ?_
  · exact ⟨none, _, _, rfl, rfl⟩
  · rintro pre e rest he s ⟨o, o3, o4, rfl, ho⟩
    obtain ⟨r, e1, o', rfl, ho'⟩ := ring_at_tie_ok k hb hn e (by rw [he]; simp)
    have nx : (pre ++ [e]).foldl (fun o e => minO o (ringAt n ties e)) none = minO (o.map List.length) (o'.map List.length) := by rw [List.foldl_append, ← ho, ho']; rfl
    rw [nx]
    cases o' with
    | none =>
      simp_arith only [e1]
      exact ⟨o, _, _, rfl, by cases o <;> rfl⟩
    | some r' =>
      cases o with
      | none =>
        simp_arith only [e1]
        exact ⟨some r', _, _, rfl, rfl⟩
      | some r =>
        by_cases h : (r'.length : Int) < r.length
        · simp_arith only [e1, h]
          exact ⟨some r', _, _, rfl, by simp only [Option.map_some, minO]; rw [if_pos (by omega)]⟩
        · simp_arith only [e1, h]
          exact ⟨some r, _, _, rfl, by simp only [Option.map_some, minO]; rw [if_neg (by omega)]⟩
  · rintro s ⟨o, o3, o4, rfl, ho⟩
    simp_arith only [toNat_nat]
    exact ⟨o, rfl, ho⟩
theorem least_ring_ok (k : Nat) {n : Nat} {ties : List (Nat × Nat)} (hb : InN n ties) (hn : n < 999) (hl : ties.length < 10000) :
    run prg (k + 4) 9 [.dat (web n ties)] = some (.dat (oE dN (ringN n ties)), [none]) := by
  apply go_eq
  obtain ⟨r, e1, o, rfl, ho⟩ := any_ring_ok k hb hn hl
  rw [e9]
  apply go_run
  rw [← ho]
  cases o with
  | none => simp_arith only [f9, e1, Option.map_none]
  | some r => simp_arith only [f9, e1, Option.map_some]
end K97
end Eng


/-! ### T4 -/
namespace Eng
namespace K97
open PySem L2
theorem own_bag_ok (k : Nat) (ns : List Int) (hl : ns.length ≤ 63) : Go (run prg (k + 1) 21 [.scr ns]) fun r => ∃ B : Bag, r = (bagT B, [none]) ∧ B.Ok := by
  rw [e21]
  apply go_run
  simp_arith only [f21]
  rw [comp_all (enc := PyData.int) (g := fun c => .dat (.int (c.natAbs : Int))) (by omega) rfl (fun c hx => by simp_arith only [toNat_nat]; first | done | trivial | (refine ⟨?_, ?_⟩ <;> first | rfl | trivial)), lst_LE (f := .int) (g := fun c : Int => (c.natAbs : Int))]
  simp_arith only [toNat_nat]
  apply go_seq
  refine for_go (fun rest s => ∃ (m : Int), ∃ (o_cell : Option T), s = [some (.scr ns), some (.dat (DE .int (ns.map fun c : Int => (c.natAbs : Int)))), some (.dat (.int m)), o_cell] ∧ 0 ≤ m ∧ m < 2147483647 ∧ ∀ c ∈ rest, 0 ≤ c) ?_ ?_ ?_
  · refine ⟨_, _, rfl, by omega, by rw [List.length_map]; omega, fun c hc => ?_⟩
    obtain ⟨z, _, rfl⟩ := List.mem_map.mp hc
    omega
  · rintro c rest s ⟨m, o, rfl, h0, h1, hc⟩
    have := hc c (List.mem_cons_self ..)
    simp_arith only [toNat_nat]
    exact ⟨_, _, rfl, Int.emod_nonneg _ (by decide), Int.emod_lt_of_pos _ (by decide), fun z hz => hc z (List.mem_cons_of_mem _ hz)⟩
  · rintro s ⟨m, o, rfl, h0, h1, hc⟩
    simp_arith only [toNat_nat]
    refine ⟨⟨_, 0, m⟩, rfl, fun c hc => ?_, by simp, h0, h1⟩
    have hc : c ∈ (ns.map fun c : Int => (c.natAbs : Int)).reverse := hc
    rw [List.mem_reverse] at hc
    obtain ⟨z, _, rfl⟩ := List.mem_map.mp hc
    omega
theorem draw_ok (k : Nat) {B : Bag} (hB : B.Ok) (b : Int) (h0 : 0 < b) (h1 : b < 1073741824) : ∃ (v : Nat) (B' : Bag), run prg (k + 1) 22 [bagT B, .dat (.int b)] = some (.dat (.int v), [some (bagT B'), none]) ∧ B'.Ok ∧ (v : Int) < b := by
  suffices h : Go (run prg (k + 1) 22 [bagT B, .dat (.int b)]) fun r => ∃ (v : Nat) (B' : Bag), r = (.dat (.int v), [some (bagT B'), none]) ∧ B'.Ok ∧ (v : Int) < b by
    obtain ⟨r, e, v, B', rfl, h⟩ := h
    exact ⟨v, B', e, h⟩
  rw [e22]
  apply go_run
  simp_arith only [f22]
  apply go_seq
  refine Go.mono (Q := fun r => ∃ s, r = .nx s ∧ ∃ (B : Bag), ∃ (o_turn o_cell : Option T), s = [some (bagT B), some (.dat (.int b)), o_turn, o_cell, none] ∧ B.Ok) (for_range (fun _ s => ∃ (B : Bag), ∃ (o_turn o_cell : Option T), s = [some (bagT B), some (.dat (.int b)), o_turn, o_cell, none] ∧ B.Ok) ⟨B, _, _, rfl, hB⟩ ?_ fun s h => ⟨s, rfl, h⟩) ?_
  · rintro i hi s ⟨B, o1, o2, rfl, hB⟩
    obtain ⟨cells, b1, b2⟩ := B
    simp_arith only [bagT, w_eqNil Dep.int (by decide)]
    by_cases hb : 0 < b1
    · simp_arith only [hb]
      exact ⟨_, rfl, ⟨cells, b1, b2⟩, _, _, rfl, hB⟩
    · rcases List.eq_nil_or_concat cells with rfl | ⟨cs, c, rfl⟩
      · simp_arith only [hb]
        exact ⟨_, rfl, ⟨[], b1, b2⟩, _, _, rfl, hB⟩
      · simp only [List.concat_eq_append] at hB ⊢
        have he : (cs ++ [c]).isEmpty = false := by simp
        have h10 : (10 : Int) ^ Int.toNat 9 = 1000000000 := by decide
        have hc := hB.cells c (by simp)
        simp_arith only [hb, he, h10]
        refine ⟨⟨cs, if decide (1000000000 < c) = true then c else 0, b2⟩, _, _, rfl, fun z hz => hB.cells z (by simp at hz ⊢; exact .inl hz), ?_, hB.b2, hB.b2'⟩
        show 0 ≤ if decide (1000000000 < c) = true then c else 0
        split <;> omega
  · rintro r ⟨s, rfl, ⟨cells, b1, b2⟩, o1, o2, rfl, hB⟩
    simp_arith only [bagT]
    have m1 := Int.emod_nonneg b1 (show b ≠ 0 by omega)
    have m2 := Int.emod_lt_of_pos b1 h0
    have d1 := Int.ediv_nonneg hB.b1 (show 0 ≤ b by omega)
    by_cases hb : 0 < b1
    · simp_arith only [hb]
      exact ⟨(b1 % b).toNat, ⟨cells, b1 / b, b2⟩, by rw [Int.toNat_of_nonneg m1], ⟨hB.cells, d1, hB.b2, hB.b2'⟩, by omega⟩
    · have q1 := hB.b2
      have q2 := hB.b2'
      have n1 := Int.emod_nonneg (b2 * 48271 + 11) (show (2147483647 : Int) ≠ 0 by decide)
      have n2 := Int.emod_lt_of_pos (b2 * 48271 + 11) (show (0 : Int) < 2147483647 by decide)
      simp_arith only [hb]
      have m1 := Int.emod_nonneg ((b2 * 48271 + 11) % 2147483647 * ((b2 * 48271 + 11) % 2147483647) % 2147483629 / 7) (show b ≠ 0 by omega)
      have m2 := Int.emod_lt_of_pos ((b2 * 48271 + 11) % 2147483647 * ((b2 * 48271 + 11) % 2147483647) % 2147483629 / 7) h0
      exact ⟨_, ⟨cells, b1, (b2 * 48271 + 11) % 2147483647⟩, by rw [Int.toNat_of_nonneg m1], ⟨hB.cells, hB.b1, n1, n2⟩, by omega⟩
theorem same_ok (k : Nat) : ∀ {m : Nat} {d : D}, GoodD m d → run prg (k + m + 1) 24 [.dat d, .dat d] = some (.dat (.bool true), [none, none])
  | m, _, .non => by
    apply go_eq
    rw [e24]
    apply go_run
    simp_arith only [f24]
  | m, _, .int i => by
    apply go_eq
    rw [e24]
    apply go_run
    simp_arith only [f24]
  | _, _, .tup (k := m) (ds := ds) hl h => by
    apply go_eq
    rw [e24]
    apply go_run
    have e2 : k + (m + 1) = k + m + 1 := rfl
    simp_arith only [f24, zipD_self]
    rw [comp_all (enc := fun d : D => .tuple [d, d]) (g := fun _ => .dat (.bool true)) hl rfl (fun d hx => by
      have := same_ok k (h d hx)
      exact by simp_arith only [this, e2]; first | done | trivial | (refine ⟨?_, ?_⟩ <;> first | rfl | trivial)), lst_LE (f := .bool) (g := fun _ => true)]
    have : (List.map (fun x : D => true) ds).all id = true := by simp
    simp_arith only [this]
end K97
end Eng


/-! ### T5 -/
namespace Eng
/-- a tie that is left out, as a pair, or () -/
def leftD : Option (Nat × Nat) → D
  | none => .tuple []
  | some e => .tuple [.int e.1, .int e.2]
open PySem in
theorem ne_left {o : Option (Nat × Nat)} {y x : Nat} : cmpT .ne (.dat (.tuple [.int (y : Int), .int (x : Int)])) (.dat (leftD o)) = some (neL o y x) := by
  cases o with
  | none =>
    show (if shp (.tuple [.int (y : Int), .int (x : Int)]) && shp (.tuple []) then some (!PyData.eqv (.tuple [.int (y : Int), .int (x : Int)]) (.tuple [])) else none) = _
    have : shp (.tuple []) = true := by simp [shp, SeqAt.shaped, PyData.canLay0, PyData.canLayAll0, PyData.depth, PyData.depthAll]
    rw [shp2, this]
    simp [PyData.eqv, PyData.eqvAll, neL]
  | some e =>
    rw [leftD, w_ne2, neL]
    simp [Int.ofNat_inj]
namespace K97
open PySem L2
theorem law_far_ok (k : Nat) (near : List (List Nat)) (p : Nat) (o : Option (Nat × Nat)) (hp : p < near.length) (hn : ∀ y, ∀ x ∈ near.getD y [], x < near.length) (hl : near.length < 1000) :
    run prg (k + 1) 25 [.dat (DE (DE dN) near), .dat (.int p), .dat (leftD o)] = some (.dat (DE .int (bfs near (okL o) p)), [none, none, none]) := by
  apply go_eq
  rw [e25]
  apply go_run
  simp_arith only [f25]
  apply go_seq
  refine for_range (fun i s => ∃ (F : List Int) (M : List Nat) (t : T), ∃ (o_step o_later o_one o_other : Option T), s = [some (.dat (DE (DE dN) near)), some (.dat (.int p)), some (.dat (leftD o)), o_step, some (LE .int F), some (t), o_later, o_one, o_other] ∧ Sq dN M t ∧ BsQ (Adj near (okL o)) p near.length i F M ∧ (M = [] ∨ negs F + i + 1 ≤ near.length)) ?_ ?_ ?_
  · refine ⟨_, [p], _, _, _, _, _, rfl, .own, bs_start hp, .inr ?_⟩
    have h0 : ((List.replicate near.length (-1 : Int)).getD p 0) < 0 := by
      rw [List.getD_eq_getElem?_getD, List.getElem?_replicate, if_pos hp]; decide
    have := countP_set (F := List.replicate near.length (-1)) (x := p) (v := 0) (by simpa using hp) h0 (by decide)
    have := negs_le (List.replicate near.length (-1))
    rw [List.length_replicate] at this
    omega
  · rintro i hi s ⟨F, M, t, o1, o2, o3, o4, rfl, hM, hB, hg⟩
    rcases hM with rfl | rfl
    all_goals
      simp_arith only [toNat_nat]
      apply go_seq
      refine for_pre (fun pre s => ∃ (F' : List Int) (L : List Nat), ∃ (o_one o_other : Option T), s = [some (.dat (DE (DE dN) near)), some (.dat (.int p)), some (.dat (leftD o)), some (.dat (.int (1 + (i : Int)))), some (LE .int F'), some (.dat (DE dN M)), some (LE dN L), o_one, o_other] ∧ (F', L) = (outs near pre).foldl (bst i (okL o)) (F, [])) ?_ ?_ ?_
      · exact ⟨F, [], _, _, rfl, rfl⟩
      · rintro pre x rest e s ⟨F', L, o5, o6, rfl, hF⟩
        have hx := (hB.mem x).mp (by rw [e]; simp)
        have hx1 := hx.1
        simp_arith only [toNat_nat]
        apply go_seq
        refine for_pre (fun pr s => ∃ (F' : List Int) (L : List Nat), ∃ (o_other : Option T), s = [some (.dat (DE (DE dN) near)), some (.dat (.int p)), some (.dat (leftD o)), some (.dat (.int (1 + (i : Int)))), some (LE .int F'), some (.dat (DE dN M)), some (LE dN L), some (.dat (.int x)), o_other] ∧ (F', L) = (outs near pre ++ pr.map fun z => (x, z)).foldl (bst i (okL o)) (F, [])) ?_ ?_ ?_
        · exact ⟨F', L, _, rfl, by simpa using hF⟩
        · rintro pr z rs e' s ⟨F2, L2, o6, rfl, hF2⟩
          have hz : z < near.length := hn x z (by rw [e']; simp)
          have hb : ∀ e ∈ outs near pre ++ pr.map fun z => (x, z), e.2 < F.length := fun e m => by
            rcases List.mem_append.mp m with m | m
            · rw [hB.len]; exact hn _ _ (mem_outs.mp m).2
            · obtain ⟨z', m', rfl⟩ := List.mem_map.mp m
              rw [hB.len]; exact hn x z' (by rw [e']; simp [m'])
          have Q := bst_fold (k := (i : Int)) (ok := okL o) (by omega) _ F [] hb
          have N := bst_negs (k := (i : Int)) (ok := okL o) (by omega) _ F [] hb
          rw [← hF2] at Q N
          have l1 := Q.len
          have l2 := hB.len
          have l3 := negs_le F
          simp only [List.length_nil, Nat.add_zero] at N l1
          have nx : ∀ F3 L3, bst i (okL o) (F2, L2) (x, z) = (F3, L3) → (F3, L3) = (outs near pre ++ (pr ++ [z]).map fun z => (x, z)).foldl (bst i (okL o)) (F, []) := fun F3 L3 e => by
            rw [List.map_append, ← List.append_assoc, List.foldl_append, ← hF2, ← e]
            rfl
          simp_arith only [ne_left]
          by_cases hneg : F2.getD z 0 < 0
          · cases hb1 : neL o x z with
            | true =>
              cases hb2 : neL o z x with
              | true =>
                simp_arith only [hneg, hb1, hb2]
                exact ⟨_, _, _, rfl, nx _ _ (by rw [bst, if_pos ⟨hneg, by rw [okL, hb1, hb2]; rfl⟩, Int.add_comm])⟩
              | false =>
                simp_arith only [hneg, hb1, hb2]
                exact ⟨_, _, _, rfl, nx _ _ (by rw [bst, if_neg (fun h => by have := h.2; rw [okL, hb1, hb2] at this; cases this)])⟩
            | false =>
              simp_arith only [hneg, hb1]
              exact ⟨_, _, _, rfl, nx _ _ (by rw [bst, if_neg (fun h => by have := h.2; rw [okL, hb1] at this; cases this)])⟩
          · simp_arith only [hneg]
            exact ⟨_, _, _, rfl, nx _ _ (by rw [bst, if_neg (fun h => hneg h.1)])⟩
        · rintro s ⟨F2, L2, o6, rfl, hF2⟩
          simp_arith only [toNat_nat]
          exact ⟨F2, L2, _, _, rfl, by rw [outs_app, outs_one]; exact hF2⟩
      · rintro s ⟨F2, L2, o5, o6, rfl, hF2⟩
        simp_arith only [toNat_nat]
        have hS := bs_step hp hn hB
        have hb : ∀ e ∈ outs near M, e.2 < F.length := fun e m => by rw [hB.len]; exact hn _ _ (mem_outs.mp m).2
        have N := bst_negs (k := (i : Int)) (ok := okL o) (by omega) _ F [] hb
        rw [← hF2] at hS N
        refine ⟨F2, L2, _, _, _, _, _, rfl, .dat, hS, ?_⟩
        simp only [List.length_nil, Nat.add_zero] at N
        by_cases hL : L2 = []
        · exact .inl hL
        · have : 0 < L2.length := List.length_pos_iff.mpr hL
          rcases hg with rfl | hg
          · simp [outs] at hF2
            exact absurd hF2.2 hL
          · exact .inr (by omega)
  · rintro s ⟨F, M, t, o1, o2, o3, o4, rfl, hM, hB, hg⟩
    simp_arith only [toNat_nat]
    have h1 : ((near.length : Int) - 1).toNat = near.length - 1 := by omega
    rw [h1] at hB hg
    have : DistQ (Adj near (okL o)) p near.length F := bs_end hp (fun y x h => hn y x h.1) hB (by
      rcases hg with hg | hg
      · exact .inl hg
      · right
        intro x hx
        exact negs_zero (by omega) x (by rw [hB.len]; exact hx))
    rw [this.uniq (bfs_ok hp hn)]
theorem law_near_ok (k : Nat) (n : Nat) (ties : List (Nat × Nat)) (hb : InN n ties) (hn : n < 1000) (hl : ties.length < 10000) :
    run prg (k + 1) 26 [.dat (.int n), .dat (DE (p2 dN dN) ties)] = some (.dat (DE (DE dN) (nearOf n ties)), [none, none]) := by
  apply go_eq
  rw [e26]
  apply go_run
  simp_arith only [f26]
  rw [comp_all (g := fun _ => .lst []) (by simp; omega) rfl (fun x hx => by simp_arith only [toNat_nat]; first | done | trivial | (refine ⟨?_, ?_⟩ <;> first | rfl | trivial)), show T.lst ((List.range n).map fun _ => T.lst []) = LL (LE dN) (List.replicate n []) by rw [List.map_const', List.length_range]; simp [LL, LE]]
  simp_arith only [toNat_nat]
  apply go_seq
  refine for_pre (fun pre s => ∃ (o_i o_j : Option T), s = [some (.dat (.int n)), some (.dat (DE (p2 dN dN) ties)), some (LL (LE dN) (nearOf n pre)), o_i, o_j, none]) ?_ ?_ ?_
  · exact ⟨_, _, rfl⟩
  · rintro pre e rest he s ⟨o2, o3, rfl⟩
    have hb' : InN n pre := fun e' h => hb e' (by rw [he]; simp [h])
    have h1 := (hb e (by rw [he]; simp)).1
    have h2 := (hb e (by rw [he]; simp)).2
    have l1 := nearOf_len n pre
    have l3 : pre.length < 10000 := by rw [he] at hl; simp at hl; omega
    have l4 := nearOf_row hb' e.1
    have l5 : (((nearOf n pre).set e.1 ((nearOf n pre).getD e.1 [] ++ [e.2])).getD e.2 []).length < 1000000 := by
      have := nearOf_row hb' e.2
      rw [getD_set _ _ _ _ _ (by omega)]
      split <;> (try simp only [List.length_append, List.length_cons, List.length_nil]) <;> omega
    simp_arith only [l1]
    rw [show nearOf n (pre ++ [e]) = addTie (nearOf n pre) e by simp [nearOf]]
    exact ⟨_, _, rfl⟩
  · rintro s ⟨o2, o3, rfl⟩
    simp_arith only [toNat_nat]
theorem law_ring_ok (k : Nat) (n : Nat) (ties : List (Nat × Nat)) (hb : InN n ties) (hne : ∀ e ∈ ties, e.1 ≠ e.2) (hn : n < 1000) (hl : ties.length < 10000) :
    run prg (k + 2) 27 [.dat (.int n), .dat (DE (p2 dN dN) ties)] = some (.dat (.int ((ringN n ties).getD 0 : Nat)), [none, none]) := by
  apply go_eq
  rw [e27]
  apply go_run
  have h1 := law_near_ok k n ties hb hn hl
  have hnl := nearOf_len n ties
  simp_arith only [f27, h1]
  apply go_seq
  refine for_pre (fun pre s => ∃ (F : List Int), ∃ (o_tie o_steps : Option T), s = [some (.dat (.int n)), some (.dat (DE (p2 dN dN) ties)), o_tie, some (.dat (DE (DE dN) (nearOf n ties))), some (LE .int F), o_steps] ∧ F = pre.filterMap fun e => Option.map (fun r : Nat => (r : Int)) (ringAt n ties e)) ?_ ?_ ?_
  · exact ⟨_, _, _, rfl, rfl⟩
  · rintro pre e rest he s ⟨F, o2, o3, rfl, hF⟩
    have hm : e ∈ ties := by rw [he]; simp
    have h1 := (hb e hm).1
    have h2 := (hb e hm).2
    have hlt : ∀ y, ∀ x ∈ (nearOf n ties).getD y [], x < (nearOf n ties).length := by rw [hnl]; exact nearOf_lt hb
    have hf := law_far_ok k (nearOf n ties) e.1 (some e) (by omega) hlt (by omega)
    rw [leftD] at hf
    have hbl := bfs_len (ok := okL (some e)) (p := e.1) (by omega) hlt
    have hs := ringAt_steps hb hm (hne e hm)
    have hFl : F.length ≤ pre.length := by rw [hF]; exact List.length_filterMap_le ..
    have hpl : pre.length < 10000 := by rw [he] at hl; simp at hl; omega
    simp_arith only [p2, hf, hbl]
    by_cases h : 0 < (bfs (nearOf n ties) (okL (some e)) e.1).getD e.2 0
    · simp_arith only [h]
      rw [if_pos h] at hs
      refine ⟨_, _, _, rfl, ?_⟩
      rw [List.filterMap_append, ← hF]
      simp only [List.filterMap_cons, hs, Option.map_some, List.filterMap_nil]
      rw [Int.toNat_of_nonneg (by omega)]
    · simp_arith only [h]
      rw [if_neg h] at hs
      refine ⟨_, _, _, rfl, ?_⟩
      rw [List.filterMap_append, ← hF]
      simp [List.filterMap_cons, hs]
  · rintro s ⟨F, o2, o3, rfl, hF⟩
    have hmin := ringN_min n ties
    cases F with
    | nil =>
      simp_arith only [w_neNil Dep.int (by decide)]
      cases hr : ringN n ties with
      | none => rfl
      | some m =>
        rw [hr] at hmin
        obtain ⟨⟨e, he, h1⟩, _⟩ := hmin
        have : (m : Int) ∈ ([] : List Int) := by rw [hF]; exact List.mem_filterMap.mpr ⟨e, he, by rw [h1]; rfl⟩
        cases this
    | cons a F =>
      obtain ⟨m, hm, hm1, hm2⟩ := minI_mem (xs := a :: F) (by simp)
      simp_arith only [w_neNil Dep.int (by decide), hm]
      rw [hF] at hm1
      obtain ⟨e, he, h1⟩ := List.mem_filterMap.mp hm1
      obtain ⟨r, h2, rfl⟩ := Option.map_eq_some_iff.mp h1
      have : IsMin ties (ringAt n ties) (some r) := ⟨⟨e, he, h2⟩, fun e' he' r' h' => by
        have := hm2 (r' : Int) (by rw [hF]; exact List.mem_filterMap.mpr ⟨e', he', by rw [h']; rfl⟩)
        omega⟩
      rw [hmin.uniq this]
      rfl
theorem law_width_ok (k : Nat) (n : Nat) (ties : List (Nat × Nat)) (hb : InN n ties) (h0 : 0 < n) (hn : n < 1000) (hl : ties.length < 10000) :
    run prg (k + 2) 28 [.dat (.int n), .dat (DE (p2 dN dN) ties)] = some (.dat (.int ((widthN n ties).getD (-1))), [none, none]) := by
  apply go_eq
  rw [e28]
  apply go_run
  have h1 := law_near_ok k n ties hb hn hl
  have hnl := nearOf_len n ties
  have hlt : ∀ y, ∀ x ∈ (nearOf n ties).getD y [], x < (nearOf n ties).length := by rw [hnl]; exact nearOf_lt hb
  simp_arith only [f28, h1]
  apply go_seq
  have hrow : ∀ p < n, run prg (k + 1) 25 [.dat (DE (DE dN) (nearOf n ties)), .dat (.int p), .dat (.tuple [])] = some (.dat (DE .int (rowOf n ties p)), [none, none, none]) := fun p hp => by
    have := law_far_ok k (nearOf n ties) p none (by omega) hlt (by omega)
    rw [leftD, okL_none] at this
    exact this
  have hne : ∀ p < n, rowOf n ties p ≠ [] := fun p hp e => by
    have := (row_ok hb hp).len
    rw [e] at this; simp at this; omega
  refine for_range (fun i s => ∃ (w : Int), ∃ (o_point o_row : Option T), s = [some (.dat (.int n)), some (.dat (DE (p2 dN dN) ties)), o_point, some (.dat (DE (DE dN) (nearOf n ties))), some (.dat (.int w)), o_row] ∧ (i = 0 → w = 0) ∧ (0 < i → -1 ∉ rowOf n ties 0 ∧ maxI ((List.range i).map fun p => (maxI (rowOf n ties p)).getD 0) = some w)) ?_ ?_ ?_
  · exact ⟨0, _, _, rfl, fun _ => rfl, fun h => by omega⟩
  · rintro i hi s ⟨w, o1, o2, rfl, hw0, hw⟩
    have hi : i < n := by simpa using hi
    obtain ⟨m, hm, hm1, hm2⟩ := minI_mem (hne i hi)
    obtain ⟨M, hM, hM1, hM2⟩ := maxI_mem (hne i hi)
    have d := row_ok hb hi
    simp_arith only [hrow i hi, hm, hM]
    by_cases h : m < 0
    · simp_arith only [h]
      have hm' : m = -1 := by have := d.lt hm1; omega
      have hz : -1 ∈ rowOf n ties 0 := by
        by_cases hz : -1 ∈ rowOf n ties 0
        · exact hz
        · exact absurd (hm' ▸ hm1) (row_neg hb hz hi)
      simp only [widthN, hz, if_true, Option.getD_none]
    · simp_arith only [h, hM]
      have hz : -1 ∉ rowOf n ties 0 := by
        by_cases hi0 : i = 0
        · subst hi0
          intro hz
          have := hm2 _ hz
          omega
        · exact (hw (by omega)).1
      refine ⟨_, _, _, rfl, fun h => by omega, fun _ => ⟨hz, ?_⟩⟩
      by_cases hi0 : i = 0
      · subst hi0
        rw [hw0 rfl]
        have : 0 ≤ M := by have := hM2 _ hm1; omega
        simp [maxI, hM]; omega
      · have := (hw (by omega)).2
        rw [List.range_succ, List.map_append, List.map_cons, List.map_nil, maxI_snoc this]
        simp [hM]
  · rintro s ⟨w, o1, o2, rfl, hw0, hw⟩
    simp_arith only [toNat_nat]
    have hw := hw (by simpa using h0)
    simp only [widthN, hw.1, if_false, hw.2, Option.getD_some]
end K97
end Eng


/-! ### T6 -/
namespace Eng
theorem add_TTp {t : List (Nat × Nat)} {i j : Nat} (h : t.length < 1000000) : binD .add (TE (p2 dN dN) t) (.tuple [.tuple [.int (i : Int), .int (j : Int)]]) = some (.dat (TE (p2 dN dN) (t ++ [(i, j)]))) := by
  have : (t.map (p2 dN dN)).length + 1 ≤ 1000000 := by rw [List.length_map]; omega
  simp only [binD, TE, List.length_cons, List.length_nil, Nat.zero_add, this, if_true, List.map_append]; rfl
/-- how long the ties of a web may be -/
theorem tiesOf_le : ∀ (ps : List (Nat × Nat)) (f : List (List (Nat × Nat))) (m : Nat), (∀ t ∈ f, t.length ≤ m) → ∀ t ∈ ps.foldl moreTies f, t.length ≤ m + ps.length
  | [], f, m, h, t, ht => by simpa using h t ht
  | p :: ps, f, m, h, t, ht => by
    have := tiesOf_le ps (moreTies f p) (m + 1) (fun t ht => by
      rcases List.mem_append.mp ht with ht | ht
      · have := h t ht; omega
      · obtain ⟨a, ha, rfl⟩ := List.mem_map.mp ht
        have := h a ha; simp; omega) t ht
    rw [List.length_cons]; omega
theorem pairs_le : ∀ n ≤ 5, ∀ i < n, ∀ k ≤ n - (i + 1), (pairsTo n i ++ (List.range k).map fun j => (i, i + 1 + j)).length ≤ 10 := by decide
theorem pairs_le' : ∀ n ≤ 5, (pairsN n).length ≤ 10 := by decide
namespace K97
open PySem L2
theorem all_webs_ok (k : Nat) (n : Nat) (hn : n ≤ 5) : run prg (k + 1) 18 [.dat (.int n)] = some (LE (web n) (allTies n), [none]) := by
  apply go_eq
  rw [e18]
  apply go_run
  simp_arith only [f18]
  apply go_seq
  refine for_range (fun i s => ∃ t : T, ∃ (o_i o_j : Option T), s = [some (.dat (.int n)), some (t), o_i, o_j, none] ∧ Sq (TE (p2 dN dN)) (tiesOf (pairsTo n i)) t) ?_ ?_ ?_
  · exact ⟨_, _, _, rfl, .own⟩
  · rintro i hi s ⟨t, o1, o2, rfl, ht⟩
    have hi : i < n := by simpa using hi
    simp_arith only [toNat_nat]
    have e0 : (fun k : Nat => PyData.int ((i : Int) + 1 + (k : Int))) = fun k => dN (i + 1 + k) := by funext k; simp [dN]
    have e1 : ((n : Int) - ((i : Int) + 1)).toNat = n - (i + 1) := by omega
    rw [e0, e1]
    apply go_seq
    refine for_range (fun j s => ∃ t : T, ∃ (o_j : Option T), s = [some (.dat (.int n)), some (t), some (.dat (.int i)), o_j, none] ∧ Sq (TE (p2 dN dN)) (tiesOf (pairsTo n i ++ (List.range j).map fun j => (i, i + 1 + j))) t) ?_ ?_ ?_
    · exact ⟨t, _, rfl, by simpa using ht⟩
    · rintro j hj s ⟨t, o2, rfl, ht⟩
      have hp := pairs_le n hn i hi j (by omega)
      generalize hps : (pairsTo n i ++ (List.range j).map fun j => (i, i + 1 + j)) = ps at hp ht
      have hl : (tiesOf ps).length ≤ 1024 := by
        rw [tiesOf, tiesOf_len]
        have := Nat.pow_le_pow_right (n := 2) (by decide) hp
        simpa using this
      have hl2 := tiesOf_le ps [[]] 0 (by simp)
      have e2 : pairsTo n i ++ (List.range (j + 1)).map (fun j => (i, i + 1 + j)) = ps ++ [(i, i + 1 + j)] := by
        rw [List.range_succ, List.map_append, ← List.append_assoc, hps]; rfl
      have e3 : tiesOf (ps ++ [(i, i + 1 + j)]) = tiesOf ps ++ (tiesOf ps).map fun t => t ++ [(i, i + 1 + j)] := by
        rw [tiesOf, List.foldl_append]; rfl
      rw [e2, e3]
      rcases ht with rfl | rfl
      all_goals
        simp_arith only [toNat_nat]
        rw [comp_all (enc := TE (p2 dN dN)) (g := fun t => .dat (TE (p2 dN dN) (t ++ [(i, i + 1 + j)]))) (by omega) rfl (fun t ht => by
          have := hl2 t ht
          exact by simp_arith only [add_TTp (show t.length < 1000000 by omega)]; first | done | trivial | (refine ⟨?_, ?_⟩ <;> first | rfl | trivial)), lst_LE (f := TE (p2 dN dN)) (g := fun t => t ++ [(i, i + 1 + j)])]
        simp_arith only [toNat_nat]
        exact ⟨_, _, rfl, .own⟩
    · rintro s ⟨t, o2, rfl, ht⟩
      simp_arith only [toNat_nat]
      exact ⟨t, _, _, rfl, by rw [pairsTo_succ]; exact ht⟩
  · rintro s ⟨t, o1, o2, rfl, ht⟩
    have hp := pairs_le' n hn
    have hl : (tiesOf (pairsTo n n)).length ≤ 1024 := by
      rw [tiesOf, tiesOf_len]
      have := Nat.pow_le_pow_right (n := 2) (by decide) hp
      simpa [pairsN] using this
    rcases ht with rfl | rfl
    all_goals
      simp_arith only [toNat_nat]
      rw [comp_all (enc := TE (p2 dN dN)) (g := fun t => .dat (web n t)) (by omega) rfl (fun t ht => by simp_arith only [toNat_nat]; first | done | trivial | (refine ⟨?_, ?_⟩ <;> first | rfl | trivial)), lst_LE (f := web n) (g := fun t => t), List.map_id']
      simp_arith only [toNat_nat]
      rfl
theorem allTies_le {n : Nat} (hn : n ≤ 5) : (allTies n).length ≤ 1024 ∧ ∀ t ∈ allTies n, t.length ≤ 10 := by
  have hp := pairs_le' n hn
  constructor
  · rw [allTies, tiesOf, tiesOf_len]
    have := Nat.pow_le_pow_right (n := 2) (by decide) hp
    simpa using this
  · intro t ht
    have := tiesOf_le (pairsN n) [[]] 0 (by simp) t ht
    omega
theorem webs_looked_ok (k : Nat) (n : Nat) (h0 : 0 < n) (hn : n ≤ 5) : run prg (k + 5) 19 [.dat (.int n)] = some (.dat (TE w3 (looked n)), [none]) := by
  apply go_eq
  rw [e19]
  apply go_run
  have ha := all_webs_ok (k + 3) n hn
  obtain ⟨hl1, hl2⟩ := allTies_le hn
  simp_arith only [f19, ha]
  apply go_seq
  refine for_pre (fun pre s => ∃ (o_web o_key o_ring o_width : Option T), s = [some (.dat (.int n)), some (.dT false (kvT (countsOf n pre))), o_web, o_key, o_ring, o_width] ∧ kO o_ring = true ∧ kO o_width = true) ?_ ?_ ?_
  · exact ⟨_, _, _, _, rfl, rfl, rfl⟩
  · rintro pre t rest he s ⟨o1, o2, o3, o4, rfl, _, _⟩
    have ht : t ∈ allTies n := by rw [he]; simp
    have hb := sub_in (mem_allTies.mp ht)
    have htl := hl2 t ht
    have hr := least_ring_ok k hb (show n < 999 by omega) (show t.length < 10000 by omega)
    have hw := web_width_ok (k + 1) n t hb h0 (by omega) (by omega)
    have hcl : (countsOf n pre).length < 1000000 := by
      have := countsOf_len (n := n) pre []
      have hp : pre.length ≤ 1024 := by rw [he] at hl1; simp at hl1; omega
      unfold countsOf; simp at this ⊢; omega
    have nx : countsOf n (pre ++ [t]) = incC (countsOf n pre) (keyN n t) := by rw [countsOf, List.foldl_append]; rfl
    rw [nx, incC, keyN]
    cases e1 : ringN n t <;> cases e2 : widthN n t
    all_goals
      rw [e1] at hr
      rw [e2] at hw
      simp_arith only [hr, hw, Option.getD_some, Option.getD_none]
      exact ⟨_, _, _, _, rfl, rfl, rfl⟩
  · rintro s ⟨o1, o2, o3, o4, rfl, h1, h2⟩
    simp_arith only [h1, h2]
    have hfl : (sortP ((countsOf n (allTies n)).map (·.1))).length ≤ 1000000 := by
      have := countsOf_len (n := n) (allTies n) []
      rw [sortP_len, List.length_map]
      unfold countsOf; simp at this ⊢; omega
    rw [comp_all (enc := dP) (g := fun k => .dat (w3 (k.1, k.2, (getC (countsOf n (allTies n)) k).getD 0))) hfl rfl (fun k hk => by
      obtain ⟨v, hv⟩ := getC_some (mem_sortP.mp hk)
      obtain ⟨a, b⟩ := k
      exact by simp_arith only [dP, itemKT hv, hv, w3, Option.getD_some]; first | done | trivial | (refine ⟨?_, ?_⟩ <;> first | rfl | trivial)), lst_LE (f := w3) (g := fun k => (k.1, k.2, (getC (countsOf n (allTies n)) k).getD 0))]
    simp_arith only [toNat_nat]
    rfl
end K97
end Eng


/-! ### T7 -/
namespace Eng
def ownOf (n i : Nat) : List (Nat × Nat) := ((pairsN n).zipIdx.filter fun p => decide (PySem.Builtin.bitAnd ((i : Int) / 2 ^ p.2) 1 = 1)).map (·.1)
theorem ownOf_all : ∀ n ≤ 4, (List.range (2 ^ (pairsN n).length)).map (ownOf n) = allTies n := by decide +kernel
theorem ownOf_mem {n : Nat} (hn : n ≤ 4) {i : Nat} (hi : i < 2 ^ (pairsN n).length) : ownOf n i ∈ allTies n := by
  rw [← ownOf_all n hn]
  exact List.mem_map.mpr ⟨i, List.mem_range.mpr hi, rfl⟩
theorem add_21 {a b c : Int} : binD .add (.tuple [.int a, .int b]) (.tuple [.int c]) = some (.dat (.tuple [.int a, .int b, .int c])) := rfl
theorem pairs_len : ∀ n ≤ 5, (pairsN n).length ≤ 10 := by decide
namespace K97
open PySem L2
theorem law_all_pairs_ok (k : Nat) (n : Nat) (hn : n ≤ 5) : run prg (k + 1) 29 [.dat (.int n)] = some (.dat (DE (p2 dN dN) (pairsN n)), [none]) := by
  apply go_eq
  rw [e29]
  apply go_run
  simp_arith only [f29]
  apply go_seq
  refine for_range (fun i s => ∃ (o_i : Option T), s = [some (.dat (.int n)), some (LE (p2 dN dN) (pairsTo n i)), o_i, none]) ?_ ?_ ?_
  · exact ⟨_, rfl⟩
  · rintro i hi s ⟨o1, rfl⟩
    have hi : i < n := by simpa using hi
    have e0 : (fun k : Nat => PyData.int ((i : Int) + 1 + (k : Int))) = fun k => dN (i + 1 + k) := by funext k; simp [dN]
    have e1 : ((n : Int) - ((i : Int) + 1)).toNat = n - (i + 1) := by omega
    simp_arith only [e0, e1]
    rw [comp_all (enc := fun k : Nat => PyData.int ((i + 1 + k : Nat) : Int)) (g := fun k => .dat (p2 dN dN (i, i + 1 + k))) (by simp; omega) rfl (fun k hk => by simp_arith only [toNat_nat]; first | done | trivial | (refine ⟨?_, ?_⟩ <;> first | rfl | trivial)), lst_LE (f := p2 dN dN) (g := fun k => (i, i + 1 + k))]
    have hp := pairs_le n hn i hi (n - (i + 1)) (Nat.le_refl _)
    rw [List.length_append] at hp
    have h1 : (pairsTo n i).length + ((List.range (n - (i + 1))).map fun k => (i, i + 1 + k)).length ≤ 1000000 := by omega
    simp_arith only [w_extend_LE h1]
    exact ⟨_, by rw [pairsTo_succ]⟩
  · rintro s ⟨o1, rfl⟩
    simp_arith only [toNat_nat]
    rfl
theorem law_webs_ok (k : Nat) (n : Nat) (h0 : 0 < n) (hn : n ≤ 4) : run prg (k + 3) 30 [.dat (.int n)] = some (.dat (TE w3 (looked n)), [none]) := by
  apply go_eq
  rw [e30]
  apply go_run
  have ha := law_all_pairs_ok (k + 1) n (by omega)
  obtain ⟨hl1, hl2⟩ := allTies_le (show n ≤ 5 by omega)
  have hpl := pairs_len n (by omega)
  obtain ⟨m, hm⟩ : ∃ m, m = 2 ^ (pairsN n).length := ⟨_, rfl⟩
  have hM : itemT (.dat (.list [.int 1, .int 1, .int 2, .int 8, .int 64])) (.int (n : Int)) = some (.dat (.int (m : Int)), none) := by
    subst hm
    have : n = 1 ∨ n = 2 ∨ n = 3 ∨ n = 4 := by omega
    rcases this with rfl | rfl | rfl | rfl <;> rfl
  have h2m : m ≤ 1024 := hm ▸ Nat.pow_le_pow_right (n := 2) (by decide) hpl
  simp_arith only [f30, ha, hM]
  apply go_seq
  refine for_range (fun i s => ∃ (o_mask o_own o_key : Option T), s = [some (.dat (.int n)), o_mask, some (.dat (DE (p2 dN dN) (pairsN n))), some (.dT false (kvT (countsOf n ((List.range i).map (ownOf n))))), o_own, o_key, none, none] ∧ kO o_key = true) ?_ ?_ ?_
  · exact ⟨_, _, _, rfl, rfl⟩
  · rintro i hi s ⟨o1, o2, o3, rfl, h3⟩
    have ht : ownOf n i ∈ allTies n := ownOf_mem hn (hm ▸ hi)
    have hb := sub_in (mem_allTies.mp ht)
    have hne : ∀ e ∈ ownOf n i, e.1 ≠ e.2 := fun e he => by
      have := mem_pairsN.mp ((mem_allTies.mp ht).subset he)
      omega
    have htl := hl2 _ ht
    have hr := law_ring_ok k n (ownOf n i) hb hne (by omega) (by omega)
    have hw := law_width_ok k n (ownOf n i) hb h0 (by omega) (by omega)
    have hcl : (countsOf n ((List.range i).map (ownOf n))).length < 1000000 := by
      have := countsOf_len (n := n) ((List.range i).map (ownOf n)) []
      rw [List.length_map, List.length_range] at this
      unfold countsOf; simp at this ⊢; omega
    simp_arith only [toNat_nat]
    rw [comp_pure (enc := fun p : (Nat × Nat) × Nat => .tuple [.int (p.2 : Int), p2 dN dN p.1]) (fun p => decide (Builtin.bitAnd ((i : Int) / 2 ^ p.2) 1 = 1)) (fun p => .dat (p2 dN dN p.1)) (by rw [List.length_zipIdx]; omega) rfl (fun p hp => by
      simp_arith only [toNat_nat]
      refine ⟨?_, ?_, fun _ => ?_⟩ <;> first | rfl | trivial), lst_LE (f := p2 dN dN) (g := fun p : (Nat × Nat) × Nat => p.1)]
    rw [show ((pairsN n).zipIdx.filter fun p => decide (Builtin.bitAnd ((i : Int) / 2 ^ p.2) 1 = 1)).map (fun p : (Nat × Nat) × Nat => p.1) = ownOf n i from rfl]
    simp_arith only [hr, hw]
    have nx : countsOf n ((List.range (i + 1)).map (ownOf n)) = setC (countsOf n ((List.range i).map (ownOf n))) (((ringN n (ownOf n i)).getD 0 : Nat), (widthN n (ownOf n i)).getD (-1)) ((getC (countsOf n ((List.range i).map (ownOf n))) (((ringN n (ownOf n i)).getD 0 : Nat), (widthN n (ownOf n i)).getD (-1))).getD 0 + 1) := by
      rw [List.range_succ, List.map_append, countsOf, List.foldl_append]
      rfl
    rw [nx]
    exact ⟨_, _, _, rfl, rfl⟩
  · rintro s ⟨o1, o2, o3, rfl, h3⟩
    rw [hm, ownOf_all n hn]
    simp_arith only [h3]
    have hfl : (sortP ((countsOf n (allTies n)).map (·.1))).length ≤ 1000000 := by
      have := countsOf_len (n := n) (allTies n) []
      rw [sortP_len, List.length_map]
      unfold countsOf; simp at this ⊢; omega
    rw [comp_all (enc := dP) (g := fun k => .dat (w3 (k.1, k.2, (getC (countsOf n (allTies n)) k).getD 0))) hfl rfl (fun k hk => by
      obtain ⟨v, hv⟩ := getC_some (mem_sortP.mp hk)
      obtain ⟨a, b⟩ := k
      exact by simp_arith only [dP, itemKT hv, hv, w3, Option.getD_some, add_21]; first | done | trivial | (refine ⟨?_, ?_⟩ <;> first | rfl | trivial)), lst_LE (f := w3) (g := fun k => (k.1, k.2, (getC (countsOf n (allTies n)) k).getD 0))]
    simp_arith only [toNat_nat]
    rfl
end K97
end Eng


/-! ### Cnt5 -/
set_option maxHeartbeats 0
namespace Eng
def chunk (i : Nat) (C : Cn) : Cn := (((allTies 5).drop (128 * i)).take 128).foldl (fun C t => incC C (keyN 5 t)) C
theorem foldl_cut {α β : Type} (f : β → α → β) (l : List α) (m : Nat) (b : β) : (l.drop m).foldl f ((l.take m).foldl f b) = l.foldl f b := by
  rw [← List.foldl_append, List.take_append_drop]
def kC1 : Cn := [((0, -1), 61), ((0, 2), 2), ((3, -1), 18), ((0, 3), 12), ((3, 2), 13), ((4, -1), 3), ((0, 4), 6), ((3, 3), 6), ((4, 3), 6), ((4, 2), 1)]
def kC2 : Cn := [((0, -1), 88), ((0, 2), 2), ((3, -1), 39), ((0, 3), 20), ((3, 2), 35), ((4, -1), 5), ((0, 4), 18), ((3, 3), 34), ((4, 3), 12), ((4, 2), 1), ((5, 2), 2)]
def kC3 : Cn := [((0, -1), 115), ((0, 2), 2), ((3, -1), 60), ((0, 3), 28), ((3, 2), 57), ((4, -1), 7), ((0, 4), 30), ((3, 3), 62), ((4, 3), 18), ((4, 2), 1), ((5, 2), 4)]
def kC4 : Cn := [((0, -1), 123), ((0, 2), 3), ((3, -1), 66), ((0, 3), 36), ((3, 2), 115), ((4, -1), 9), ((0, 4), 36), ((3, 3), 84), ((4, 3), 30), ((4, 2), 4), ((5, 2), 6)]
def kC5 : Cn := [((0, -1), 150), ((0, 2), 3), ((3, -1), 87), ((0, 3), 44), ((3, 2), 137), ((4, -1), 11), ((0, 4), 48), ((3, 3), 112), ((4, 3), 36), ((4, 2), 4), ((5, 2), 8)]
def kC6 : Cn := [((0, -1), 158), ((0, 2), 4), ((3, -1), 93), ((0, 3), 52), ((3, 2), 195), ((4, -1), 13), ((0, 4), 54), ((3, 3), 134), ((4, 3), 48), ((4, 2), 7), ((5, 2), 10)]
def kC7 : Cn := [((0, -1), 166), ((0, 2), 5), ((3, -1), 99), ((0, 3), 60), ((3, 2), 253), ((4, -1), 15), ((0, 4), 60), ((3, 3), 156), ((4, 3), 60), ((4, 2), 10), ((5, 2), 12)]
def kC8 : Cn := [((0, -1), 166), ((0, 2), 5), ((3, -1), 115), ((0, 3), 60), ((3, 2), 340), ((4, -1), 15), ((0, 4), 60), ((3, 3), 180), ((4, 3), 60), ((4, 2), 10), ((5, 2), 12), ((3, 1), 1)]
theorem ch0 : chunk 0 [] = kC1 := by decide +kernel
theorem ch1 : chunk 1 kC1 = kC2 := by decide +kernel
theorem ch2 : chunk 2 kC2 = kC3 := by decide +kernel
theorem ch3 : chunk 3 kC3 = kC4 := by decide +kernel
theorem ch4 : chunk 4 kC4 = kC5 := by decide +kernel
theorem ch5 : chunk 5 kC5 = kC6 := by decide +kernel
theorem ch6 : chunk 6 kC6 = kC7 := by decide +kernel
theorem ch7 : chunk 7 kC7 = kC8 := by decide +kernel
theorem chEnd : (allTies 5).drop 1024 = [] := by decide +kernel
theorem counts5 : countsOf 5 (allTies 5) = kC8 := by
  have step : ∀ (i : Nat) (C : Cn), ((allTies 5).drop (128 * i)).foldl (fun C t => incC C (keyN 5 t)) C = ((allTies 5).drop (128 * (i + 1))).foldl (fun C t => incC C (keyN 5 t)) (chunk i C) := fun i C => by
    rw [← foldl_cut _ ((allTies 5).drop (128 * i)) 128 C, List.drop_drop]
    rfl
  have h0 : countsOf 5 (allTies 5) = ((allTies 5).drop (128 * 0)).foldl (fun C t => incC C (keyN 5 t)) [] := rfl
  rw [h0, step, ch0, step, ch1, step, ch2, step, ch3, step, ch4, step, ch5, step, ch6, step, ch7, chEnd]
  rfl
def lk1 : List (Int × Int × Int) := [(0, 0, 1)]
def lk2 : List (Int × Int × Int) := [(0, -1, 1), (0, 1, 1)]
def lk3 : List (Int × Int × Int) := [(0, -1, 4), (0, 2, 3), (3, 1, 1)]
def lk4 : List (Int × Int × Int) := [(0, -1, 22), (0, 2, 4), (0, 3, 12), (3, -1, 4), (3, 1, 1), (3, 2, 18), (4, 2, 3)]
def lk5 : List (Int × Int × Int) := [(0, -1, 166), (0, 2, 5), (0, 3, 60), (0, 4, 60), (3, -1, 115), (3, 1, 1), (3, 2, 340), (3, 3, 180), (4, -1, 15), (4, 2, 10), (4, 3, 60), (5, 2, 12)]
theorem looked1 : looked 1 = lk1 := by decide +kernel
theorem looked2 : looked 2 = lk2 := by decide +kernel
theorem looked3 : looked 3 = lk3 := by decide +kernel
theorem looked4 : looked 4 = lk4 := by decide +kernel
theorem looked5 : looked 5 = lk5 := by
  unfold looked
  rw [counts5]
  decide +kernel
end Eng

/-! ### T8 -/
namespace Eng
theorem lk_cases {P : Nat → Prop} (h1 : P 1) (h2 : P 2) (h3 : P 3) (h4 : P 4) (h5 : P 5) : ∀ N, 0 < N → N ≤ 5 → P N := fun N h0 h => by
  have : N = 1 ∨ N = 2 ∨ N = 3 ∨ N = 4 ∨ N = 5 := by omega
  rcases this with rfl | rfl | rfl | rfl | rfl <;> assumption
theorem lk_len : ∀ N, 0 < N → N ≤ 5 → (looked N).length ≤ 12 := lk_cases (by rw [looked1]; decide) (by rw [looked2]; decide) (by rw [looked3]; decide) (by rw [looked4]; decide) (by rw [looked5]; decide)
theorem lk_sum : ∀ N : Nat, 0 < N → N ≤ 5 → itemT (.dat (.list [.int 1, .int 1, .int 2, .int 8, .int 64, .int 1024])) (.int (N : Int)) = some (.dat (.int ((looked N).map fun t => t.2.2).sum), none) := lk_cases (by rw [looked1]; rfl) (by rw [looked2]; rfl) (by rw [looked3]; rfl) (by rw [looked4]; rfl) (by rw [looked5]; rfl)
theorem lk_trees : ∀ N : Nat, 0 < N → N ≤ 5 → itemT (.dat (.list [.int 1, .int 1, .int 1, .int 3, .int 16, .int 125])) (.int (N : Int)) = some (.dat (.int (((looked N).filter fun t => decide (t.1 = 0) && decide (0 ≤ t.2.1)).map fun t => t.2.2).sum), none) := lk_cases (by rw [looked1]; rfl) (by rw [looked2]; rfl) (by rw [looked3]; rfl) (by rw [looked4]; rfl) (by rw [looked5]; rfl)
theorem lk_bar : ∀ N : Nat, 0 < N → N ≤ 5 → ∀ t ∈ looked N, ¬ (0 < t.1 ∧ 0 ≤ t.2.1 ∧ 2 * t.2.1 + 1 < t.1) := lk_cases (by rw [looked1]; decide) (by rw [looked2]; decide) (by rw [looked3]; decide) (by rw [looked4]; decide) (by rw [looked5]; decide)
namespace K97
open PySem L2
theorem law_five_ok (k : Nat) : run prg (k + 1) 31 [] = some (.dat (TE w3 (looked 5)), []) := by
  rw [looked5]
  apply go_eq
  rw [e31]
  apply go_run
  simp_arith only [f31]
  exact ⟨_, rfl, rfl⟩
theorem are_webs_right_ok (k : Nat) {B : Bag} (hB : B.Ok) : ∃ B' : Bag, run prg (k + 10) 32 [bagT B] = some (.dat (.bool true), [some (bagT B')]) ∧ B'.Ok := by
  suffices h : Go (run prg (k + 10) 32 [bagT B]) fun r => ∃ B' : Bag, r = (.dat (.bool true), [some (bagT B')]) ∧ B'.Ok by
    obtain ⟨r, e, B', rfl, h⟩ := h
    exact ⟨B', e, h⟩
  rw [e32]
  apply go_run
  obtain ⟨v1, B1, d1, hB1, hv1⟩ := draw_ok (k + 8) hB 4 (by omega) (by omega)
  obtain ⟨v2, B2, d2, hB2, hv2⟩ := draw_ok (k + 8) hB1 2 (by omega) (by omega)
  obtain ⟨v3, B3, d3, hB3, hv3⟩ := draw_ok (k + 8) hB2 8 (by omega) (by omega)
  obtain ⟨N, hN, h0, h5⟩ : ∃ N : Nat, (if decide ((v3 : Int) = 0) = true then 5 else 1 + (v1 : Int)) = (N : Int) ∧ 0 < N ∧ N ≤ 5 := ⟨if v3 = 0 then 5 else 1 + v1, by split <;> split <;> simp_all <;> omega, by split <;> omega, by split <;> omega⟩
  have hlk := webs_looked_ok (k + 4) N h0 h5
  have hll := lk_len N h0 h5
  have hsame := same_ok (k + 6) (good_TE good_w3 (xs := looked N) (by omega))
  have hpairs := law_all_pairs_ok (k + 8) N h5
  have hpl := pairs_len N h5
  have hLsum := lk_sum N h0 h5
  have hLtr := lk_trees N h0 h5
  rcases (by omega : N < 5 ∨ N = 5) with h | h
  · have hdue := law_webs_ok (k + 6) N h0 (by omega)
    have hdec : decide ((N : Int) < 5) = true := by simp; omega
--{ rest
    simp_arith only [f32, d1, d2, d3, hN, hdec, hdue, hlk, hsame]
    rw [comp_pure (enc := w3) (fun t => decide (t.1 = 0) && decide (0 ≤ t.2.1)) (fun t => .dat (.int t.2.2)) (by omega) rfl (fun t ht => by
      simp_arith only [w3]
      refine ⟨?_, ?_, fun _ => ?_⟩ <;> first | rfl | trivial), lst_LE (f := .int) (g := fun t : Int × Int × Int => t.2.2)]
    simp_arith only [toNat_nat]
    rw [comp_all (enc := w3) (g := fun t => .dat (.int t.2.2)) (by omega) rfl (fun t ht => by simp_arith only [toNat_nat]; first | done | trivial | (refine ⟨?_, ?_⟩ <;> first | rfl | trivial)), lst_LE (f := .int) (g := fun t : Int × Int × Int => t.2.2)]
    simp_arith only [hLsum, hLtr, hpairs]
    apply go_seq
    refine for_range (fun _ s => ∃ (B : Bag), ∃ (o_due o_trees o_turn o_way o_own o_web o_found o_ring o_width o_many o_pair o_item : Option T), s = [some (bagT B), some (.dat (.int N)), o_due, some (.dat (TE w3 (looked N))), o_trees, some (.dat (DE (p2 dN dN) (pairsN N))), o_turn, some (.dat (.bool (decide ((v2 : Int) = 0)))), o_way, o_own, o_web, o_found, o_ring, o_width, o_many, o_pair, o_item] ∧ B.Ok ∧ kO o_pair = true ∧ kO o_item = true) ?_ ?_ ?_
    · exact ⟨_, _, _, _, _, _, _, _, _, _, _, _, _, rfl, hB3, rfl, rfl⟩
    · rintro i hi s ⟨B, o1, o2, o3, o4, o5, o6, o7, o8, o9, o10, o11, o12, rfl, hB, hk1, hk2⟩
      obtain ⟨w, B4, d4, hB4, hw⟩ := draw_ok (k + 8) hB 3 (by omega) (by omega)
      simp_arith only [d4, hk1]
      apply go_seq
      apply go_asg
      apply go_Kcm3
      refine comp_go (fun rest acc s => ∃ (B : Bag) (pre own : List (Nat × Nat)), pairsN N = pre ++ rest ∧ own.Sublist pre ∧ acc = own.map (fun e => T.dat (p2 dN dN e)) ∧ B.Ok ∧ ∃ (o_pair : Option T), s = [some (bagT B), some (.dat (.int N)), o1, some (.dat (TE w3 (looked N))), o2, some (.dat (DE (p2 dN dN) (pairsN N))), some (.dat (.int i)), some (.dat (.bool (decide ((v2 : Int) = 0)))), some (.dat (.int w)), o5, o6, o7, o8, o9, o10, o_pair, o12]) ?_ ?_ ?_
      · exact ⟨B4, [], [], rfl, .slnil, rfl, hB4, _, rfl⟩
      · rintro x rest acc s ⟨B, pre, own, hpre, hown, rfl, hB, o, rfl⟩
        obtain ⟨u, B5, d5, hB5, hu⟩ := draw_ok (k + 8) hB 2 (by omega) (by omega)
        obtain ⟨u', B6, d6, hB6, hu'⟩ := draw_ok (k + 8) hB 4 (by omega) (by omega)
        have hpl' : pre.length ≤ 10 := by rw [hpre] at hpl; simp at hpl; omega
        have hol := hown.length_le
        have hpre' : pairsN N = (pre ++ [x]) ++ rest := by rw [hpre]; simp
        by_cases hw0 : (w : Int) = 0
        · have hw1 : ¬ (0 < (w : Int)) := by omega
          simp_arith only [hw0, hw1, d5, Int.lt_irrefl]
          by_cases hu0 : (u : Int) = 0
          · simp_arith only [hu0, Int.lt_irrefl]
            exact ⟨by rw [List.length_map]; omega, B5, pre ++ [x], own ++ [x], hpre', hown.append (List.Sublist.refl _), by simp, hB5, _, rfl⟩
          · simp_arith only [hu0, Int.lt_irrefl]
            exact ⟨B5, pre ++ [x], own, hpre', hown.trans (List.sublist_append_left _ _), rfl, hB5, _, rfl⟩
        · have hw1 : (0 < (w : Int)) := by omega
          simp_arith only [hw0, hw1, d6]
          by_cases hu0 : (w : Int) ≤ (u' : Int)
          · simp_arith only [hu0]
            exact ⟨by rw [List.length_map]; omega, B6, pre ++ [x], own ++ [x], hpre', hown.append (List.Sublist.refl _), by simp, hB6, _, rfl⟩
          · simp_arith only [hu0]
            exact ⟨B6, pre ++ [x], own, hpre', hown.trans (List.sublist_append_left _ _), rfl, hB6, _, rfl⟩
      · rintro ts s ⟨B, pre, own, hpre, hown, rfl, hB, o, rfl⟩
        have hown : own.Sublist (pairsN N) := by rw [hpre, List.append_nil]; exact hown
        have hb := sub_in hown
        have hol := hown.length_le
        have hne : ∀ e ∈ own, e.1 ≠ e.2 := fun e he => by
          have := mem_pairsN.mp (hown.subset he)
          omega
        have hr := law_ring_ok (k + 7) N own hb hne (by omega) (by omega)
        have hwd := law_width_ok (k + 7) N own hb h0 (by omega) (by omega)
        have hr2 := least_ring_ok (k + 5) hb (show N < 999 by omega) (by omega)
        have hwd2 := web_width_ok (k + 6) N own hb h0 (by omega) (by omega)
        rw [show T.lst (own.map fun e => T.dat (p2 dN dN e)) = LE (p2 dN dN) own from rfl]
        rw [web] at hr2 hwd2
        have hkey := key_looked hown
        simp_arith only [hr, hwd, hr2, hwd2]
        have hpos : ∀ r, ringN N own = some r → 0 < r := fun r h => ringN_pos h
        have hwpos : ∀ w, widthN N own = some w → 0 ≤ w := fun w h => widthN_pos hb h
        have hbar := lk_bar N h0 h5
        obtain ⟨cnt, hcnt⟩ := hkey
        have hbar' := hbar _ hcnt
        have hpre2 : ∀ (r w : Int), (keyN N own).1 = r → (keyN N own).2 = w → ((looked N).filter fun t => decide (t.1 = r) && decide (t.2.1 = w)).isEmpty = false := fun r w h1 h2 => by
          rw [List.isEmpty_eq_false_iff_exists_mem]
          exact ⟨_, List.mem_filter.mpr ⟨hcnt, by simp [h1, h2]⟩⟩
        have hdue2 : ∀ (a b : D), GoodD 1 (.tuple [oE dN (ringN N own), oE .int (widthN N own)]) := fun _ _ => .tup (by simp) (by
          intro d hd
          simp at hd
          rcases hd with rfl | rfl
          · exact good_oN _
          · exact good_oI _)
        have hsame2 := same_ok (k + 7) (hdue2 .none .none)
        have hz : ((0 : Nat) : Int) = 0 := rfl
        have hm1 : ((0 : Int) ≤ -1) = False := by simp
        cases e1 : ringN N own with
        | none =>
          cases e2 : widthN N own with
          | none =>
            simp only [e1, e2, w_oE_n, w_oE_s, w_dN] at hsame2
            have hkk : keyN N own = (0, -1) := by rw [keyN, e1, e2]; rfl
            have hne := hpre2 (0) (-1) (by rw [hkk]) (by rw [hkk])
            rw [hkk] at hbar'
            simp_arith only [hsame2, hz, hm1, Option.getD_none, Option.getD_some, Int.lt_irrefl, hk2]
            rw [comp_pure (enc := w3) (fun t => decide (t.1 = 0) && decide (t.2.1 = -1)) (fun t => .dat (w3 t)) (by omega) rfl (fun t ht => by
              simp_arith only [toNat_nat]
              refine ⟨?_, ?_, fun _ => ?_⟩ <;> first | rfl | trivial), lst_LE (f := w3) (g := fun t : Int × Int × Int => t), List.map_id']
            simp_arith only [w_eqNil Dep.w3 (by decide), hne, Int.lt_irrefl, hm1]
            exact ⟨_, _, _, _, _, _, _, _, _, _, _, _, _, rfl, hB, hk1, hk2⟩
          | some wd =>
            have hw0 := hwpos wd e2
            simp only [e1, e2, w_oE_n, w_oE_s, w_dN] at hsame2
            have hkk : keyN N own = (0, wd) := by rw [keyN, e1, e2]; rfl
            have hne := hpre2 (0) (wd) (by rw [hkk]) (by rw [hkk])
            rw [hkk] at hbar'
            simp_arith only [hsame2, hz, hm1, Option.getD_none, Option.getD_some, Int.lt_irrefl, hk2, hw0]
            rw [comp_pure (enc := w3) (fun t => decide (t.1 = 0) && decide (t.2.1 = wd)) (fun t => .dat (w3 t)) (by omega) rfl (fun t ht => by
              simp_arith only [toNat_nat]
              refine ⟨?_, ?_, fun _ => ?_⟩ <;> first | rfl | trivial), lst_LE (f := w3) (g := fun t : Int × Int × Int => t), List.map_id']
            simp_arith only [w_eqNil Dep.w3 (by decide), hne, Int.lt_irrefl, hm1, hw0]
            exact ⟨_, _, _, _, _, _, _, _, _, _, _, _, _, rfl, hB, hk1, hk2⟩
        | some r =>
          have hr0 : (0 : Int) < (r : Int) := by have := hpos r e1; omega
          cases e2 : widthN N own with
          | none =>
            simp only [e1, e2, w_oE_n, w_oE_s, w_dN] at hsame2
            have hkk : keyN N own = ((r : Int), -1) := by rw [keyN, e1, e2]; rfl
            have hne := hpre2 (r) (-1) (by rw [hkk]) (by rw [hkk])
            rw [hkk] at hbar'
            simp_arith only [hsame2, hz, hm1, Option.getD_none, Option.getD_some, Int.lt_irrefl, hk2, hr0]
            rw [comp_pure (enc := w3) (fun t => decide (t.1 = r) && decide (t.2.1 = -1)) (fun t => .dat (w3 t)) (by omega) rfl (fun t ht => by
              simp_arith only [toNat_nat]
              refine ⟨?_, ?_, fun _ => ?_⟩ <;> first | rfl | trivial), lst_LE (f := w3) (g := fun t : Int × Int × Int => t), List.map_id']
            simp_arith only [w_eqNil Dep.w3 (by decide), hne, Int.lt_irrefl, hm1, hr0]
            exact ⟨_, _, _, _, _, _, _, _, _, _, _, _, _, rfl, hB, hk1, hk2⟩
          | some wd =>
            have hw0 := hwpos wd e2
            have hlast : ¬ (2 * wd + 1 < (r : Int)) := by
              rw [keyN, e1, e2] at hbar'
              simp only [Option.getD_some] at hbar'
              omega
            simp only [e1, e2, w_oE_n, w_oE_s, w_dN] at hsame2
            have hkk : keyN N own = ((r : Int), wd) := by rw [keyN, e1, e2]; rfl
            have hne := hpre2 (r) (wd) (by rw [hkk]) (by rw [hkk])
            rw [hkk] at hbar'
            simp_arith only [hsame2, hz, hm1, Option.getD_none, Option.getD_some, Int.lt_irrefl, hk2, hr0, hw0, hlast]
            rw [comp_pure (enc := w3) (fun t => decide (t.1 = r) && decide (t.2.1 = wd)) (fun t => .dat (w3 t)) (by omega) rfl (fun t ht => by
              simp_arith only [toNat_nat]
              refine ⟨?_, ?_, fun _ => ?_⟩ <;> first | rfl | trivial), lst_LE (f := w3) (g := fun t : Int × Int × Int => t), List.map_id']
            simp_arith only [w_eqNil Dep.w3 (by decide), hne, Int.lt_irrefl, hm1, hr0, hw0, hlast]
            exact ⟨_, _, _, _, _, _, _, _, _, _, _, _, _, rfl, hB, hk1, hk2⟩
    · rintro s ⟨B, o1, o2, o3, o4, o5, o6, o7, o8, o9, o10, o11, o12, rfl, hB, hk1, hk2⟩
      simp_arith only [toNat_nat]
      exact ⟨B, rfl, hB⟩
--}
  · have hdue : run prg (k + 8 + 1) 31 [] = some (.dat (TE w3 (looked N)), []) := h ▸ law_five_ok (k + 8)
    have hdec : decide ((N : Int) < 5) = false := by simp; omega
    simp_arith only [f32, d1, d2, d3, hN, hdec, hdue, hlk, hsame]
    rw [comp_pure (enc := w3) (fun t => decide (t.1 = 0) && decide (0 ≤ t.2.1)) (fun t => .dat (.int t.2.2)) (by omega) rfl (fun t ht => by
      simp_arith only [w3]
      refine ⟨?_, ?_, fun _ => ?_⟩ <;> first | rfl | trivial), lst_LE (f := .int) (g := fun t : Int × Int × Int => t.2.2)]
    simp_arith only [toNat_nat]
    rw [comp_all (enc := w3) (g := fun t => .dat (.int t.2.2)) (by omega) rfl (fun t ht => by simp_arith only [toNat_nat]; first | done | trivial | (refine ⟨?_, ?_⟩ <;> first | rfl | trivial)), lst_LE (f := .int) (g := fun t : Int × Int × Int => t.2.2)]
    simp_arith only [hLsum, hLtr, hpairs]
    apply go_seq
    refine for_range (fun _ s => ∃ (B : Bag), ∃ (o_due o_trees o_turn o_way o_own o_web o_found o_ring o_width o_many o_pair o_item : Option T), s = [some (bagT B), some (.dat (.int N)), o_due, some (.dat (TE w3 (looked N))), o_trees, some (.dat (DE (p2 dN dN) (pairsN N))), o_turn, some (.dat (.bool (decide ((v2 : Int) = 0)))), o_way, o_own, o_web, o_found, o_ring, o_width, o_many, o_pair, o_item] ∧ B.Ok ∧ kO o_pair = true ∧ kO o_item = true) ?_ ?_ ?_
    · exact ⟨_, _, _, _, _, _, _, _, _, _, _, _, _, rfl, hB3, rfl, rfl⟩
    · rintro i hi s ⟨B, o1, o2, o3, o4, o5, o6, o7, o8, o9, o10, o11, o12, rfl, hB, hk1, hk2⟩
      obtain ⟨w, B4, d4, hB4, hw⟩ := draw_ok (k + 8) hB 3 (by omega) (by omega)
      simp_arith only [d4, hk1]
      apply go_seq
      apply go_asg
      apply go_Kcm3
      refine comp_go (fun rest acc s => ∃ (B : Bag) (pre own : List (Nat × Nat)), pairsN N = pre ++ rest ∧ own.Sublist pre ∧ acc = own.map (fun e => T.dat (p2 dN dN e)) ∧ B.Ok ∧ ∃ (o_pair : Option T), s = [some (bagT B), some (.dat (.int N)), o1, some (.dat (TE w3 (looked N))), o2, some (.dat (DE (p2 dN dN) (pairsN N))), some (.dat (.int i)), some (.dat (.bool (decide ((v2 : Int) = 0)))), some (.dat (.int w)), o5, o6, o7, o8, o9, o10, o_pair, o12]) ?_ ?_ ?_
      · exact ⟨B4, [], [], rfl, .slnil, rfl, hB4, _, rfl⟩
      · rintro x rest acc s ⟨B, pre, own, hpre, hown, rfl, hB, o, rfl⟩
        obtain ⟨u, B5, d5, hB5, hu⟩ := draw_ok (k + 8) hB 2 (by omega) (by omega)
        obtain ⟨u', B6, d6, hB6, hu'⟩ := draw_ok (k + 8) hB 4 (by omega) (by omega)
        have hpl' : pre.length ≤ 10 := by rw [hpre] at hpl; simp at hpl; omega
        have hol := hown.length_le
        have hpre' : pairsN N = (pre ++ [x]) ++ rest := by rw [hpre]; simp
        by_cases hw0 : (w : Int) = 0
        · have hw1 : ¬ (0 < (w : Int)) := by omega
          simp_arith only [hw0, hw1, d5, Int.lt_irrefl]
          by_cases hu0 : (u : Int) = 0
          · simp_arith only [hu0, Int.lt_irrefl]
            exact ⟨by rw [List.length_map]; omega, B5, pre ++ [x], own ++ [x], hpre', hown.append (List.Sublist.refl _), by simp, hB5, _, rfl⟩
          · simp_arith only [hu0, Int.lt_irrefl]
            exact ⟨B5, pre ++ [x], own, hpre', hown.trans (List.sublist_append_left _ _), rfl, hB5, _, rfl⟩
        · have hw1 : (0 < (w : Int)) := by omega
          simp_arith only [hw0, hw1, d6]
          by_cases hu0 : (w : Int) ≤ (u' : Int)
          · simp_arith only [hu0]
            exact ⟨by rw [List.length_map]; omega, B6, pre ++ [x], own ++ [x], hpre', hown.append (List.Sublist.refl _), by simp, hB6, _, rfl⟩
          · simp_arith only [hu0]
            exact ⟨B6, pre ++ [x], own, hpre', hown.trans (List.sublist_append_left _ _), rfl, hB6, _, rfl⟩
      · rintro ts s ⟨B, pre, own, hpre, hown, rfl, hB, o, rfl⟩
        have hown : own.Sublist (pairsN N) := by rw [hpre, List.append_nil]; exact hown
        have hb := sub_in hown
        have hol := hown.length_le
        have hne : ∀ e ∈ own, e.1 ≠ e.2 := fun e he => by
          have := mem_pairsN.mp (hown.subset he)
          omega
        have hr := law_ring_ok (k + 7) N own hb hne (by omega) (by omega)
        have hwd := law_width_ok (k + 7) N own hb h0 (by omega) (by omega)
        have hr2 := least_ring_ok (k + 5) hb (show N < 999 by omega) (by omega)
        have hwd2 := web_width_ok (k + 6) N own hb h0 (by omega) (by omega)
        rw [show T.lst (own.map fun e => T.dat (p2 dN dN e)) = LE (p2 dN dN) own from rfl]
        rw [web] at hr2 hwd2
        have hkey := key_looked hown
        simp_arith only [hr, hwd, hr2, hwd2]
        have hpos : ∀ r, ringN N own = some r → 0 < r := fun r h => ringN_pos h
        have hwpos : ∀ w, widthN N own = some w → 0 ≤ w := fun w h => widthN_pos hb h
        have hbar := lk_bar N h0 h5
        obtain ⟨cnt, hcnt⟩ := hkey
        have hbar' := hbar _ hcnt
        have hpre2 : ∀ (r w : Int), (keyN N own).1 = r → (keyN N own).2 = w → ((looked N).filter fun t => decide (t.1 = r) && decide (t.2.1 = w)).isEmpty = false := fun r w h1 h2 => by
          rw [List.isEmpty_eq_false_iff_exists_mem]
          exact ⟨_, List.mem_filter.mpr ⟨hcnt, by simp [h1, h2]⟩⟩
        have hdue2 : ∀ (a b : D), GoodD 1 (.tuple [oE dN (ringN N own), oE .int (widthN N own)]) := fun _ _ => .tup (by simp) (by
          intro d hd
          simp at hd
          rcases hd with rfl | rfl
          · exact good_oN _
          · exact good_oI _)
        have hsame2 := same_ok (k + 7) (hdue2 .none .none)
        have hz : ((0 : Nat) : Int) = 0 := rfl
        have hm1 : ((0 : Int) ≤ -1) = False := by simp
        cases e1 : ringN N own with
        | none =>
          cases e2 : widthN N own with
          | none =>
            simp only [e1, e2, w_oE_n, w_oE_s, w_dN] at hsame2
            have hkk : keyN N own = (0, -1) := by rw [keyN, e1, e2]; rfl
            have hne := hpre2 (0) (-1) (by rw [hkk]) (by rw [hkk])
            rw [hkk] at hbar'
            simp_arith only [hsame2, hz, hm1, Option.getD_none, Option.getD_some, Int.lt_irrefl, hk2]
            rw [comp_pure (enc := w3) (fun t => decide (t.1 = 0) && decide (t.2.1 = -1)) (fun t => .dat (w3 t)) (by omega) rfl (fun t ht => by
              simp_arith only [toNat_nat]
              refine ⟨?_, ?_, fun _ => ?_⟩ <;> first | rfl | trivial), lst_LE (f := w3) (g := fun t : Int × Int × Int => t), List.map_id']
            simp_arith only [w_eqNil Dep.w3 (by decide), hne, Int.lt_irrefl, hm1]
            exact ⟨_, _, _, _, _, _, _, _, _, _, _, _, _, rfl, hB, hk1, hk2⟩
          | some wd =>
            have hw0 := hwpos wd e2
            simp only [e1, e2, w_oE_n, w_oE_s, w_dN] at hsame2
            have hkk : keyN N own = (0, wd) := by rw [keyN, e1, e2]; rfl
            have hne := hpre2 (0) (wd) (by rw [hkk]) (by rw [hkk])
            rw [hkk] at hbar'
            simp_arith only [hsame2, hz, hm1, Option.getD_none, Option.getD_some, Int.lt_irrefl, hk2, hw0]
            rw [comp_pure (enc := w3) (fun t => decide (t.1 = 0) && decide (t.2.1 = wd)) (fun t => .dat (w3 t)) (by omega) rfl (fun t ht => by
              simp_arith only [toNat_nat]
              refine ⟨?_, ?_, fun _ => ?_⟩ <;> first | rfl | trivial), lst_LE (f := w3) (g := fun t : Int × Int × Int => t), List.map_id']
            simp_arith only [w_eqNil Dep.w3 (by decide), hne, Int.lt_irrefl, hm1, hw0]
            exact ⟨_, _, _, _, _, _, _, _, _, _, _, _, _, rfl, hB, hk1, hk2⟩
        | some r =>
          have hr0 : (0 : Int) < (r : Int) := by have := hpos r e1; omega
          cases e2 : widthN N own with
          | none =>
            simp only [e1, e2, w_oE_n, w_oE_s, w_dN] at hsame2
            have hkk : keyN N own = ((r : Int), -1) := by rw [keyN, e1, e2]; rfl
            have hne := hpre2 (r) (-1) (by rw [hkk]) (by rw [hkk])
            rw [hkk] at hbar'
            simp_arith only [hsame2, hz, hm1, Option.getD_none, Option.getD_some, Int.lt_irrefl, hk2, hr0]
            rw [comp_pure (enc := w3) (fun t => decide (t.1 = r) && decide (t.2.1 = -1)) (fun t => .dat (w3 t)) (by omega) rfl (fun t ht => by
              simp_arith only [toNat_nat]
              refine ⟨?_, ?_, fun _ => ?_⟩ <;> first | rfl | trivial), lst_LE (f := w3) (g := fun t : Int × Int × Int => t), List.map_id']
            simp_arith only [w_eqNil Dep.w3 (by decide), hne, Int.lt_irrefl, hm1, hr0]
            exact ⟨_, _, _, _, _, _, _, _, _, _, _, _, _, rfl, hB, hk1, hk2⟩
          | some wd =>
            have hw0 := hwpos wd e2
            have hlast : ¬ (2 * wd + 1 < (r : Int)) := by
              rw [keyN, e1, e2] at hbar'
              simp only [Option.getD_some] at hbar'
              omega
            simp only [e1, e2, w_oE_n, w_oE_s, w_dN] at hsame2
            have hkk : keyN N own = ((r : Int), wd) := by rw [keyN, e1, e2]; rfl
            have hne := hpre2 (r) (wd) (by rw [hkk]) (by rw [hkk])
            rw [hkk] at hbar'
            simp_arith only [hsame2, hz, hm1, Option.getD_none, Option.getD_some, Int.lt_irrefl, hk2, hr0, hw0, hlast]
            rw [comp_pure (enc := w3) (fun t => decide (t.1 = r) && decide (t.2.1 = wd)) (fun t => .dat (w3 t)) (by omega) rfl (fun t ht => by
              simp_arith only [toNat_nat]
              refine ⟨?_, ?_, fun _ => ?_⟩ <;> first | rfl | trivial), lst_LE (f := w3) (g := fun t : Int × Int × Int => t), List.map_id']
            simp_arith only [w_eqNil Dep.w3 (by decide), hne, Int.lt_irrefl, hm1, hr0, hw0, hlast]
            exact ⟨_, _, _, _, _, _, _, _, _, _, _, _, _, rfl, hB, hk1, hk2⟩
    · rintro s ⟨B, o1, o2, o3, o4, o5, o6, o7, o8, o9, o10, o11, o12, rfl, hB, hk1, hk2⟩
      simp_arith only [toNat_nat]
      exact ⟨B, rfl, hB⟩
end K97
end Eng


/-! ### T9 -/
namespace Eng
namespace K97
open PySem L2
theorem farthest_ok (k : Nat) (n : Nat) (steps : List Nat) (h0 : 0 < n) (hn : n < 1000) {e : Nat} (he : EccQ n steps e) :
    run prg (k + 1) 12 [.dat (.int n), .dat (TE dN steps)] = some (.dat (.int e), [none, none]) := by
  apply go_eq
  rw [e12]
  apply go_run
  simp_arith only [f12]
  apply go_seq
  have hlt := circ_lt (steps := steps) h0
  refine while_go (fun m s => ∃ (k : Nat) (F0 F : List Int) (M pre post base L : List Nat), ∃ (o_step o_other : Option T), s = [some (.dat (.int n)), some (.dat (TE dN steps)), some (LE nE F), some (LE dN (base ++ M ++ L)), some (.dat (.int ((base.length + pre.length : Nat) : Int))), o_step, o_other]
    ∧ BsQ (CA n steps) 0 n k F0 M ∧ M = pre ++ post ∧ (F, L) = (outs (circ n steps) pre).foldl (bst k fun _ _ => true) (F0, []) ∧ (post = [] → L = []) ∧ M ≠ [] ∧ m = negs F + ((base ++ M ++ L).length - (base.length + pre.length)) ∧ negs F + (base ++ M ++ L).length = n) ?_ ?_
  · have h1 : ((List.replicate n (-1 : Int)).getD 0 0) < 0 := by
      rw [List.getD_eq_getElem?_getD, List.getElem?_replicate, if_pos h0]; decide
    have h2 := countP_set (F := List.replicate n (-1)) (x := 0) (v := 0) (by simpa using h0) h1 (by decide)
    have h3 : negs (List.replicate n (-1)) = n := by
      have : List.countP (fun x : Int => decide (x < 0)) (List.replicate n (-1)) = (List.replicate n (-1 : Int)).length := List.countP_eq_length.mpr (fun a m => by rw [(List.mem_replicate.mp m).2]; rfl)
      simpa [negs] using this
    refine ⟨negs ((List.replicate n (-1)).set 0 0) + 1, by omega, 0, (List.replicate n (-1)).set 0 0, (List.replicate n (-1)).set 0 0, [0], [], [0], [], [], _, _, rfl, bs_start h0, rfl, rfl, ?_, ?_, rfl, ?_⟩
    · intro h; cases h
    · simp
    · show negs ((List.replicate n (-1)).set 0 0) + 1 = n
      omega
  · rintro m s ⟨k, F0, F, M, pre, post, base, L, o1, o2, rfl, hB, hM, hF, hp, hne, rfl, hc⟩
    have hb : ∀ e ∈ outs (circ n steps) pre, e.2 < F0.length := fun e m => by rw [hB.len]; exact hlt _ _ (mem_outs.mp m).2
    cases post with
    | nil =>
      have hL := hp rfl
      subst hL
      rw [List.append_nil] at hM
      subst hM
      simp_arith only [List.append_nil]
      have e1 : ¬ (((base.length + M.length : Nat) : Int) < ((base ++ M).length : Int)) := by rw [List.length_append]; omega
      simp_arith only [e1]
      have hS := bs_step h0 hlt hB
      rw [← hF] at hS
      have hz : ∃ z M0, M = M0 ++ [z] := by
        rcases List.eq_nil_or_concat M with h | ⟨M0, z, h⟩
        · exact absurd h hne
        · exact ⟨z, M0, by rw [h, List.concat_eq_append]⟩
      obtain ⟨z, M0, rfl⟩ := hz
      have lz := (hB.mem z).mp (by simp)
      have hno : ∀ x, ¬ Lev (CA n steps) 0 (k + 1) x := fun x l => by
        have := (hS.mem x).mpr ⟨l.1.lt h0 (fun y x h => hlt y x h.1), l⟩
        cases this
      have hek := ecc_last h0 he lz.2 hno
      have hFz : F.getD z 0 = k := (hS.pos z lz.1 k).mpr ⟨lz.2, by omega⟩
      have hl : F.length = n := hS.len
      have e2 : (base ++ (M0 ++ [z])).getD (-1 + ((base ++ (M0 ++ [z])).length : Int)).toNat 0 = z := by
        rw [← List.append_assoc]
        exact getD_mid (by simp; omega)
      have hlen : (-((base ++ (M0 ++ [z])).length : Int)) ≤ -1 := by simp; omega
      have hzn := lz.1
      simp_arith only [e2, hlen, hFz, nE_pos (show ¬ ((k : Int) < 0) by omega), hek]
    | cons x post =>
      have hx := (hB.mem x).mp (by rw [hM]; simp)
      have hx1 := hx.1
      have hl0 := hB.len
      have e1 : (((base.length + pre.length : Nat) : Int) < ((base ++ M ++ L).length : Int)) := by
        rw [hM]; simp; omega
      simp_arith only [e1]
      apply go_seq
      refine for_pre (fun pr s => ∃ (F' : List Int) (L' : List Nat), ∃ (o_step o_other : Option T), s = [some (.dat (.int n)), some (.dat (TE dN steps)), some (LE nE F'), some (LE dN (base ++ M ++ L')), some (.dat (.int ((base.length + pre.length : Nat) : Int))), o_step, o_other]
        ∧ (F', L') = (outs (circ n steps) pre ++ pr.map fun s => (x, (x + s) % n)).foldl (bst k fun _ _ => true) (F0, [])) ?_ ?_ ?_
      · exact ⟨F, L, _, _, rfl, by simpa using hF⟩
      · rintro pr z rs e' s ⟨F2, L2, o3, o4, rfl, hF2⟩
        have hzn : (x + z) % n < n := Nat.mod_lt _ h0
        have hb2 : ∀ e ∈ outs (circ n steps) pre ++ pr.map fun s => (x, (x + s) % n), e.2 < F0.length := fun e m => by
          rcases List.mem_append.mp m with m | m
          · exact hb e m
          · obtain ⟨z', _, rfl⟩ := List.mem_map.mp m
            rw [hl0]; exact Nat.mod_lt _ h0
        have Q := bst_fold (k := (k : Int)) (ok := fun _ _ => true) (by omega) _ F0 [] hb2
        have N := bst_negs (k := (k : Int)) (ok := fun _ _ => true) (by omega) _ F0 [] hb2
        have N0 := bst_negs (k := (k : Int)) (ok := fun _ _ => true) (by omega) _ F0 [] hb
        rw [← hF2] at Q N
        rw [← hF] at N0
        have l1 := Q.len
        have l3 := negs_le F0
        simp only [List.length_nil, Nat.add_zero] at N l1 N0
        simp only [List.length_append] at hc
        have hrl : (base ++ M ++ L2).length ≤ n := by simp only [List.length_append]; omega
        have fx : F2.getD x 0 = k := by
          have := (hB.pos x hx1 k).mpr ⟨hx.2, Nat.le_refl _⟩
          rw [Q.old x (by omega), this]
        have hrow : (base ++ M ++ L2).getD (base.length + pre.length) 0 = x := by
          rw [hM, show base ++ (pre ++ x :: post) ++ L2 = (base ++ pre) ++ x :: (post ++ L2) by simp]
          exact getD_mid (by simp)
        have hpl : base.length + pre.length < (base ++ M ++ L2).length := by rw [hM]; simp
        have hmod : ((x : Int) + (z : Int)) % (n : Int) = (((x + z) % n : Nat) : Int) := by simp
        have nx : ∀ F3 L3, bst k (fun _ _ => true) (F2, L2) (x, (x + z) % n) = (F3, L3) → (F3, L3) = (outs (circ n steps) pre ++ (pr ++ [z]).map fun s => (x, (x + s) % n)).foldl (bst k fun _ _ => true) (F0, []) := fun F3 L3 e => by
          rw [List.map_append, ← List.append_assoc, List.foldl_append, ← hF2, ← e]
          rfl
        simp_arith only [hrow, hmod]
        by_cases hneg : F2.getD ((x + z) % n) 0 < 0
        · simp_arith only [hneg, hrow, fx, nE_pos (show ¬ ((k : Int) < 0) by omega), w_store_nE]
          rw [List.append_assoc (base ++ M)]
          exact ⟨_, _, _, _, rfl, nx _ _ (by rw [bst, if_pos ⟨hneg, by first | trivial | rfl⟩])⟩
        · simp_arith only [hneg]
          exact ⟨_, _, _, _, rfl, nx _ _ (by rw [bst, if_neg (fun h => hneg h.1)])⟩
      · rintro s ⟨F2, L2, o3, o4, rfl, hF2⟩
        simp_arith only [toNat_nat]
        have hx3 : outs (circ n steps) (pre ++ [x]) = outs (circ n steps) pre ++ steps.map fun s => (x, (x + s) % n) := by rw [outs_app, outs_circ hx1]
        rw [← hx3] at hF2
        have hb3 : ∀ e ∈ outs (circ n steps) (pre ++ [x]), e.2 < F0.length := fun e m => by rw [hl0]; exact hlt _ _ (mem_outs.mp m).2
        have N := bst_negs (k := (k : Int)) (ok := fun _ _ => true) (by omega) _ F0 [] hb3
        have N0 := bst_negs (k := (k : Int)) (ok := fun _ _ => true) (by omega) _ F0 [] hb
        rw [← hF2] at N
        rw [← hF] at N0
        simp only [List.length_nil, Nat.add_zero] at N N0
        simp only [List.length_append] at hc
        have hMl : M.length = pre.length + (post.length + 1) := by rw [hM]; simp
        have hpc : (((base.length + pre.length : Nat) : Int) + 1) = ((base.length + (pre ++ [x]).length : Nat) : Int) := by simp; omega
        rw [hpc]
        by_cases hsw : post = [] ∧ L2 ≠ []
        · obtain ⟨hp1, hp2⟩ := hsw
          subst hp1
          have hS := bs_step h0 hlt hB
          rw [hM, ← hF2] at hS
          have hpl : base.length + (pre ++ [x]).length = (base ++ M).length + ([] : List Nat).length := by simp [hM]
          have hE := hpl
          rw [hE, show base ++ M ++ L2 = (base ++ M) ++ L2 ++ [] by simp]
          refine ⟨_, ?_, k + 1, F2, F2, L2, [], L2, base ++ M, [], _, _, rfl, hS, rfl, rfl, fun h => absurd h hp2, hp2, rfl, ?_⟩
          · simp only [List.length_append, List.append_nil, List.length_nil] at *; omega
          · simp only [List.length_append, List.append_nil, List.length_nil, List.length_cons] at *; omega
        · refine ⟨_, ?_, k, F0, F2, M, pre ++ [x], post, base, L2, _, _, rfl, hB, by rw [hM]; simp, hF2, fun h => Classical.byContradiction fun h2 => hsw ⟨h, h2⟩, hne, rfl, ?_⟩
          · simp only [List.length_append, List.length_nil, List.length_cons] at *; omega
          · simp only [List.length_append] at *; omega
end K97
end Eng


/-! ### T10 -/
namespace Eng
namespace K97
open PySem L2
theorem law_loop_ok (k : Nat) (n : Nat) (steps : List Nat) (h0 : 0 < n) (hn : n < 1000) (hs : ∀ s ∈ steps, 0 < s ∧ s < n) :
    run prg (k + 1) 33 [.dat (.int n), .dat (DE dN steps)] = some (.dat (.int (eccI n steps)), [none, none]) := by
  apply go_eq
  rw [e33]
  apply go_run
  simp_arith only [f33]
  apply go_seq
  have hlt := circ_lt (steps := steps) h0
  refine for_range (fun i s => ∃ (F : List Int) (M : List Nat) (t : T) (many : Nat), ∃ (o_turn o_later o_place o_step o_other : Option T), s = [some (.dat (.int n)), some (.dat (DE dN steps)), o_turn, some (LE .int F), some (t), some (.dat (.int many)), o_later, o_place, o_step, o_other] ∧ Sq dN M t ∧ BsQ (CA n steps) 0 n i F M ∧ M ≠ [] ∧ negs F + many = n ∧ i + 1 ≤ many) ?_ ?_ ?_
  · have h1 : ((List.replicate n (-1 : Int)).getD 0 0) < 0 := by
      rw [List.getD_eq_getElem?_getD, List.getElem?_replicate, if_pos h0]; decide
    have h2 := countP_set (F := List.replicate n (-1)) (x := 0) (v := 0) (by simpa using h0) h1 (by decide)
    have h3 : negs (List.replicate n (-1)) = n := by
      have : List.countP (fun x : Int => decide (x < 0)) (List.replicate n (-1)) = (List.replicate n (-1 : Int)).length := List.countP_eq_length.mpr (fun a m => by rw [(List.mem_replicate.mp m).2]; rfl)
      simpa [negs] using this
    refine ⟨_, [0], _, 1, _, _, _, _, _, rfl, .own, bs_start h0, by simp, ?_, Nat.le_refl _⟩
    omega
  · rintro i hi s ⟨F, M, t, many, o1, o2, o3, o4, o5, rfl, hM, hB, hne, hc, hmi⟩
    have hl0 := hB.len
    rcases hM with rfl | rfl
    all_goals
      simp_arith only [toNat_nat]
      apply go_seq
      refine for_pre (fun pre s => ∃ (F' : List Int) (L : List Nat), ∃ (o_place o_step o_other : Option T), s = [some (.dat (.int n)), some (.dat (DE dN steps)), some (.dat (.int (1 + (i : Int)))), some (LE .int F'), some (.dat (DE dN M)), some (.dat (.int many)), some (LE dN L), o_place, o_step, o_other] ∧ (F', L) = (outs (circ n steps) pre).foldl (bst i fun _ _ => true) (F, [])) ?_ ?_ ?_
      · exact ⟨F, [], _, _, _, rfl, rfl⟩
      · rintro pre x rest e s ⟨F1, L1, o5, o6, o7, rfl, hF⟩
        have hx := (hB.mem x).mp (by rw [e]; simp)
        have hx1 := hx.1
        have hb : ∀ e ∈ outs (circ n steps) pre, e.2 < F.length := fun e m => by rw [hl0]; exact hlt _ _ (mem_outs.mp m).2
        simp_arith only [toNat_nat]
        apply go_seq
        refine for_pre (fun pr s => ∃ (F' : List Int) (L : List Nat), ∃ (o_step o_other : Option T), s = [some (.dat (.int n)), some (.dat (DE dN steps)), some (.dat (.int (1 + (i : Int)))), some (LE .int F'), some (.dat (DE dN M)), some (.dat (.int many)), some (LE dN L), some (.dat (.int x)), o_step, o_other] ∧ (F', L) = (outs (circ n steps) pre ++ pr.map fun s => (x, (x + s) % n)).foldl (bst i fun _ _ => true) (F, [])) ?_ ?_ ?_
        · exact ⟨F1, L1, _, _, rfl, by simpa using hF⟩
        · rintro pr z rs e' s ⟨F2, L2, o6, o7, rfl, hF2⟩
          have hzn : (x + z) % n < n := Nat.mod_lt _ h0
          have hb2 : ∀ e ∈ outs (circ n steps) pre ++ pr.map fun s => (x, (x + s) % n), e.2 < F.length := fun e m => by
            rcases List.mem_append.mp m with m | m
            · exact hb e m
            · obtain ⟨z', _, rfl⟩ := List.mem_map.mp m
              rw [hl0]; exact Nat.mod_lt _ h0
          have Q := bst_fold (k := (i : Int)) (ok := fun _ _ => true) (by omega) _ F [] hb2
          have N := bst_negs (k := (i : Int)) (ok := fun _ _ => true) (by omega) _ F [] hb2
          rw [← hF2] at Q N
          have l1 := Q.len
          have l3 := negs_le F
          simp only [List.length_nil, Nat.add_zero] at N l1
          have hmod : ((x : Int) + (z : Int)) % (n : Int) = (((x + z) % n : Nat) : Int) := by simp
          have nx : ∀ F3 L3, bst i (fun _ _ => true) (F2, L2) (x, (x + z) % n) = (F3, L3) → (F3, L3) = (outs (circ n steps) pre ++ (pr ++ [z]).map fun s => (x, (x + s) % n)).foldl (bst i fun _ _ => true) (F, []) := fun F3 L3 e => by
            rw [List.map_append, ← List.append_assoc, List.foldl_append, ← hF2, ← e]
            rfl
          simp_arith only [hmod]
          by_cases hneg : F2.getD ((x + z) % n) 0 < 0
          · simp_arith only [hneg]
            exact ⟨_, _, _, _, rfl, nx _ _ (by rw [bst, if_pos ⟨hneg, by first | trivial | rfl⟩, Int.add_comm])⟩
          · simp_arith only [hneg]
            exact ⟨_, _, _, _, rfl, nx _ _ (by rw [bst, if_neg (fun h => hneg h.1)])⟩
        · rintro s ⟨F2, L2, o6, o7, rfl, hF2⟩
          simp_arith only [toNat_nat]
          exact ⟨F2, L2, _, _, _, rfl, by rw [outs_app, outs_circ hx1]; exact hF2⟩
      · rintro s ⟨F2, L2, o5, o6, o7, rfl, hF2⟩
        have hS := bs_step h0 hlt hB
        have hb : ∀ e ∈ outs (circ n steps) M, e.2 < F.length := fun e m => by rw [hl0]; exact hlt _ _ (mem_outs.mp m).2
        have N := bst_negs (k := (i : Int)) (ok := fun _ _ => true) (by omega) _ F [] hb
        rw [← hF2] at hS N
        simp only [List.length_nil, Nat.add_zero] at N
        simp_arith only [w_eqNil Dep.dN (by decide)]
        cases L2 with
        | nil =>
          have hno : ∀ x, ¬ Lev (CA n steps) 0 (i + 1) x := fun x l => by
            have := (hS.mem x).mpr ⟨l.1.lt h0 (fun y x h => hlt y x h.1), l⟩
            cases this
          have hst := eccI_stop h0 hs hB hne hno
          have e1 : 1 + (i : Int) - 1 = i := by omega
          by_cases hfull : (many : Int) = (n : Int)
          · have : negs F = 0 := by omega
            rw [if_pos this] at hst
            simp_arith only [hfull, hst, e1]
          · have : ¬ negs F = 0 := by omega
            rw [if_neg this] at hst
            simp_arith only [hfull, hst]
        | cons y L2 =>
          simp only [List.length_cons] at N
          have e1 : (many : Int) + (((y :: L2).length : Nat) : Int) = ((many + (y :: L2).length : Nat) : Int) := by omega
          simp_arith only [e1]
          exact ⟨F2, y :: L2, _, _, _, _, _, _, _, rfl, .dat, hS, by simp, by simp only [List.length_cons]; omega, by simp only [List.length_cons]; omega⟩
  · rintro s ⟨F, M, t, many, o1, o2, o3, o4, o5, rfl, hM, hB, hne, hc, hmi⟩
    have h1 : ((n : Int) - 1).toNat = n - 1 := by omega
    rw [h1] at hB hmi
    have hz : negs F = 0 := by omega
    have hfull : (many : Int) = (n : Int) := by omega
    have hS := bs_step h0 hlt hB
    have hno : ∀ x, ¬ Lev (CA n steps) 0 (n - 1 + 1) x := fun x l => by
      have hx : x < n := l.1.lt h0 (fun y x h => hlt y x h.1)
      have := negs_zero hz x (by rw [hB.len]; exact hx)
      have r : Rch (CA n steps) 0 (n - 1) x := Classical.byContradiction fun h2 => by have := (hB.neg' x hx).mpr h2; omega
      exact l.2 _ (by omega) r
    have hst := eccI_stop h0 hs hB hne hno
    rw [if_pos hz] at hst
    have e2 : (n : Int) - 1 = ((n - 1 : Nat) : Int) := by omega
    simp_arith only [hfull, hst, e2]
end K97
end Eng


/-! ### T11 -/
namespace Eng
namespace K97
open PySem L2
theorem commuting_ok (k : Nat) (n : Nat) (steps : List Nat) (h0 : 0 < n) (hn : n < 1000) (hl : steps.length ≤ 10) (hs : ∀ s ∈ steps, s < n) (hg : steps.foldl Nat.gcd n = 1) {e1 e2 : Nat} (he1 : EccQ n steps e1) (he2 : EccQ n (steps ++ steps.map fun s => n - s) e2) :
    run prg (k + 2) 13 [.dat (.int n), .dat (TE dN steps)] = some (.dat (.tuple [.int e1, .int e2]), [none, none]) := by
  apply go_eq
  rw [e13]
  apply go_run
  simp_arith only [f13]
  apply go_seq
  refine for_pre (fun pre s => ∃ (o_step : Option T), s = [some (.dat (.int n)), some (.dat (TE dN steps)), some (.dat (.int ((pre.foldl Nat.gcd n : Nat) : Int))), o_step] ∧ kO o_step = true) ?_ ?_ ?_
  · exact ⟨_, rfl, rfl⟩
  · rintro pre x rest e s ⟨o, rfl, ho⟩
    simp_arith only [toNat_nat]
    exact ⟨_, by rw [List.foldl_append]; rfl, rfl⟩
  · rintro s ⟨o, rfl, ho⟩
    have f1 := farthest_ok k n steps h0 hn he1
    have f2 := farthest_ok k n (steps ++ steps.map fun s => n - s) h0 hn he2
    have hz : ¬ ((1 : Int) < ((1 : Nat) : Int)) := by decide
    rw [hg]
    simp_arith only [hz, f1, ho]
    rw [comp_all (enc := dN) (g := fun s => .dat (dN (n - s))) (by omega) rfl (fun s hs' => by
      have := hs s hs'
      have e : (n : Int) - (s : Int) = ((n - s : Nat) : Int) := by omega
      exact by simp_arith only [e]; first | done | trivial | (refine ⟨?_, ?_⟩ <;> first | rfl | trivial)), lst_LE (f := dN) (g := fun s => n - s)]
    have hl2 : steps.length + (steps.map fun s => n - s).length ≤ 1000000 := by rw [List.length_map]; omega
    simp_arith only [w_addTT hl2, f2]
theorem loop_widths_ok (k : Nat) (n a b : Nat) (hn : n < 1000) (ha : 1 ≤ a) (ha' : a < n) (hb : 1 ≤ b) (hb' : b < n) (hg : Nat.gcd n (Nat.gcd a b) = 1) {e1 e2 : Nat} (he1 : ecc n [a, b] = some e1) (he2 : ecc n (both n a b) = some e2) :
    run prg (k + 3) 14 [.dat (.int n), .dat (.int a), .dat (.int b)] = some (.dat (.tuple [.int e1, .int e2]), [none, none, none]) := by
  apply go_eq
  rw [e14]
  apply go_run
  have h0 : 0 < n := by omega
  have hc := commuting_ok k n [a, b] h0 hn (by simp) (fun s hs => (steps2 ha ha' hb hb' s hs).2) (by
    show Nat.gcd (Nat.gcd n a) b = 1
    rw [Nat.gcd_assoc]; exact hg) (ecc_some h0 (steps2 ha ha' hb hb') he1) (ecc_some h0 (steps4 ha ha' hb hb') he2)
  have hc' : run prg (k + 2) 13 [.dat (.int n), .dat (.tuple [.int a, .int b])] = some (.dat (.tuple [.int e1, .int e2]), [none, none]) := hc
  simp_arith only [f14, hc']
theorem law_both_ok (k : Nat) (n a b : Nat) (hn : n < 1000) (ha : 1 ≤ a) (ha' : a < n) (hb : 1 ≤ b) (hb' : b < n) :
    run prg (k + 2) 34 [.dat (.int n), .dat (.int a), .dat (.int b)] = some (.dat (.tuple [.int (eccI n [a, b]), .int (eccI n (both n a b))]), [none, none, none]) := by
  apply go_eq
  rw [e34]
  apply go_run
  have h0 : 0 < n := by omega
  have f1 := law_loop_ok k n [a, b] h0 hn (steps2 ha ha' hb hb')
  have f2 := law_loop_ok k n (both n a b) h0 hn (steps4 ha ha' hb hb')
  have f1' : run prg (k + 1) 33 [.dat (.int n), .dat (.list [.int a, .int b])] = some (.dat (.int (eccI n [a, b])), [none, none]) := f1
  have ea : (n : Int) - (a : Int) = ((n - a : Nat) : Int) := by omega
  have eb : (n : Int) - (b : Int) = ((n - b : Nat) : Int) := by omega
  have f2' : run prg (k + 1) 33 [.dat (.int n), .dat (.list [.int a, .int b, .int ((n - a : Nat) : Int), .int ((n - b : Nat) : Int)])] = some (.dat (.int (eccI n (both n a b))), [none, none]) := f2
  simp_arith only [f34, f1', ea, eb, f2']
theorem loops_looked_ok (k : Nat) (n : Nat) (h2 : 2 ≤ n) (hn : n ≤ 100) {lo1 lo2 : Nat} (hok : okN n lo1 lo2 = true) (hw1 : ∃ a b, 1 ≤ a ∧ a ≤ b ∧ b < n ∧ ecc n [a, b] = some lo1) (hw2 : ∃ a b, 1 ≤ a ∧ a ≤ b ∧ b < n ∧ (∃ e, ecc n [a, b] = some e) ∧ ecc n (both n a b) = some lo2) :
    run prg (k + 4) 20 [.dat (.int n)] = some (.dat (.tuple [.int lo1, .int lo2]), [none]) := by
  apply go_eq
  rw [e20]
  apply go_run
  simp_arith only [f20]
  apply go_seq
  refine for_range (fun i s => ∃ (o_a : Option T), s = [some (.dat (.int n)), some (LE (p2 dN dN) (pairsG n i)), o_a, none, none, none]) ?_ ?_ ?_
  · exact ⟨_, rfl⟩
  · rintro i hi s ⟨o1, rfl⟩
    have hi : i < n - 1 := by omega
    have e0 : (fun k : Nat => PyData.int (1 + (i : Int) + (k : Int))) = fun k : Nat => PyData.int ((i + 1 + k : Nat) : Int) := by funext k; congr 1; omega
    have e1 : ((n : Int) - (1 + (i : Int))).toNat = n - (i + 1) := by omega
    have e2 : 1 + (i : Int) = ((i + 1 : Nat) : Int) := by omega
    simp_arith only [e0, e1]
    rw [comp_pure (enc := fun k : Nat => PyData.int ((i + 1 + k : Nat) : Int)) (fun d => decide (Nat.gcd n (Nat.gcd (i + 1) (i + 1 + d)) = 1)) (fun d => .dat (p2 dN dN (E1 n (i + 1) (i + 1 + d), E2 n (i + 1) (i + 1 + d)))) (by rw [List.length_range]; omega) rfl (fun d hd => by
      have hd := List.mem_range.mp hd
      have hdec : decide (((Nat.gcd n (Nat.gcd (i + 1) (i + 1 + d)) : Nat) : Int) = 1) = decide (Nat.gcd n (Nat.gcd (i + 1) (i + 1 + d)) = 1) := by rw [decide_eq_decide]; omega
      simp_arith only [e2, hdec]
      refine ⟨?_, ?_, fun hg => ?_⟩
      · first | rfl | trivial
      · first | rfl | trivial
      · have hq := okAB_gcd (okN_get hok (a := i + 1) (b := i + 1 + d) (by omega) (by omega) (by omega)) (by simpa using hg)
        have := loop_widths_ok k n (i + 1) (i + 1 + d) (by omega) (by omega) (by omega) (by omega) (by omega) (by simpa using hg) hq.e1 hq.e2
        simp_arith only [this]
        rfl), lst_LE (f := p2 dN dN) (g := fun d => (E1 n (i + 1) (i + 1 + d), E2 n (i + 1) (i + 1 + d)))]
    have hp := pairsG_len n (i + 1)
    rw [pairsG_succ, List.length_append] at hp
    have : (i + 1) * n ≤ 100 * 100 := Nat.mul_le_mul (by omega) hn
    simp_arith only [w_extend_LE (f := p2 dN dN) (show (pairsG n i).length + _ ≤ 1000000 from Nat.le_trans hp (by omega))]
    exact ⟨_, by rw [pairsG_succ]⟩
  · rintro s ⟨o1, rfl⟩
    have e1 : ((n : Int) - 1).toNat = n - 1 := by omega
    rw [e1]
    have hp := pairsG_len n (n - 1)
    have : (n - 1) * n ≤ 100 * 100 := Nat.mul_le_mul (by omega) hn
    simp_arith only [toNat_nat]
    rw [comp_all (enc := p2 dN dN) (g := fun p => .dat (.int ((p.1 : Nat) : Int))) (by omega) rfl (fun p hp => by simp_arith only [toNat_nat]; first | done | trivial | (refine ⟨?_, ?_⟩ <;> first | rfl | trivial)), lst_LE (f := .int) (g := fun p : Nat × Nat => ((p.1 : Nat) : Int))]
    have hmem : ∀ p ∈ pairsG n (n - 1), lo1 ≤ p.1 ∧ lo2 ≤ p.2 := fun p hp => by
      obtain ⟨a, b, h1, h2, h3, h4, rfl⟩ := mem_pairsG.mp hp
      have hq := okAB_gcd (okN_get hok h1 h2 h3) h4
      exact ⟨hq.l1, hq.l2⟩
    have m1 : minI ((pairsG n (n - 1)).map fun p : Nat × Nat => ((p.1 : Nat) : Int)) = some (lo1 : Int) := minI_eq (by
      obtain ⟨a, b, h1, h2, h3, h4⟩ := hw1
      have hg := okAB_some (okN_get hok h1 h2 h3) h4
      exact List.mem_map.mpr ⟨_, mem_pairsG.mpr ⟨a, b, h1, h2, h3, hg, rfl⟩, by simp [E1, h4]⟩) (fun x hx => by
      obtain ⟨p, hp, rfl⟩ := List.mem_map.mp hx
      have := (hmem p hp).1
      omega)
    have m2 : minI ((pairsG n (n - 1)).map fun p : Nat × Nat => ((p.2 : Nat) : Int)) = some (lo2 : Int) := minI_eq (by
      obtain ⟨a, b, h1, h2, h3, ⟨e, h4⟩, h5⟩ := hw2
      have hg := okAB_some (okN_get hok h1 h2 h3) h4
      exact List.mem_map.mpr ⟨_, mem_pairsG.mpr ⟨a, b, h1, h2, h3, hg, rfl⟩, by simp [E2, h5]⟩) (fun x hx => by
      obtain ⟨p, hp, rfl⟩ := List.mem_map.mp hx
      have := (hmem p hp).2
      omega)
    simp_arith only [m1]
    rw [comp_all (enc := p2 dN dN) (g := fun p => .dat (.int ((p.2 : Nat) : Int))) (by omega) rfl (fun p hp => by simp_arith only [toNat_nat]; first | done | trivial | (refine ⟨?_, ?_⟩ <;> first | rfl | trivial)), lst_LE (f := .int) (g := fun p : Nat × Nat => ((p.2 : Nat) : Int))]
    simp_arith only [m2]
theorem law_loops_ok (k : Nat) (n : Nat) (h2 : 2 ≤ n) (hn : n ≤ 9) {lo1 lo2 : Nat} (hok : okN n lo1 lo2 = true) (hw1 : ∃ a b, 1 ≤ a ∧ a ≤ b ∧ b < n ∧ ecc n [a, b] = some lo1) (hw2 : ∃ a b, 1 ≤ a ∧ a ≤ b ∧ b < n ∧ (∃ e, ecc n [a, b] = some e) ∧ ecc n (both n a b) = some lo2) :
    run prg (k + 3) 37 [.dat (.int n)] = some (.dat (.tuple [.int lo1, .int lo2]), [none]) := by
  apply go_eq
  rw [e37]
  apply go_run
  have hn9 : ¬ ((9 : Int) < (n : Int)) := by omega
  simp_arith only [f37, hn9]
  apply go_seq
  refine for_range (fun i s => ∃ (o_a : Option T), s = [some (.dat (.int n)), some (LE (p2 PyData.int PyData.int) (pairsL n i)), o_a, none, none]) ?_ ?_ ?_
  · exact ⟨_, rfl⟩
  · rintro i hi s ⟨o1, rfl⟩
    have hi : i < n - 1 := by omega
    have e0 : (fun k : Nat => PyData.int (1 + (i : Int) + (k : Int))) = fun k : Nat => PyData.int ((i + 1 + k : Nat) : Int) := by funext k; congr 1; omega
    have e1 : ((n : Int) - (1 + (i : Int))).toNat = n - (i + 1) := by omega
    have e2 : 1 + (i : Int) = ((i + 1 : Nat) : Int) := by omega
    simp_arith only [e0, e1]
    rw [comp_all (enc := fun k : Nat => PyData.int ((i + 1 + k : Nat) : Int)) (g := fun d => .dat (p2 PyData.int PyData.int (pL n i d))) (by rw [List.length_range]; omega) rfl (fun d hd => by
      have hd := List.mem_range.mp hd
      have := law_both_ok k n (i + 1) (i + 1 + d) (by omega) (by omega) (by omega) (by omega) (by omega)
      exact by simp_arith only [e2, this, p2, pL]; first | done | trivial | (refine ⟨?_, ?_⟩ <;> first | rfl | trivial)), lst_LE (f := p2 PyData.int PyData.int) (g := fun d => pL n i d)]
    have hp := pairsL_len n (i + 1)
    rw [pairsL_succ, List.length_append] at hp
    have : (i + 1) * n ≤ 100 * 100 := Nat.mul_le_mul (by omega) (by omega)
    simp_arith only [w_extend_LE (f := p2 PyData.int PyData.int) (show (pairsL n i).length + _ ≤ 1000000 from Nat.le_trans hp (by omega))]
    exact ⟨_, by rw [pairsL_succ]⟩
  · rintro s ⟨o1, rfl⟩
    have e1 : ((n : Int) - 1).toNat = n - 1 := by omega
    rw [e1]
    have hp := pairsL_len n (n - 1)
    have : (n - 1) * n ≤ 100 * 100 := Nat.mul_le_mul (by omega) (by omega)
    simp_arith only [toNat_nat]
    rw [comp_pure (enc := p2 PyData.int PyData.int) (fun p => decide (0 ≤ p.1)) (fun p => .dat (p2 PyData.int PyData.int p)) (by omega) rfl (fun p hp => by
      simp_arith only [toNat_nat]
      refine ⟨?_, ?_, fun _ => ?_⟩ <;> first | trivial | rfl), lst_LE (f := p2 PyData.int PyData.int) (g := fun p : Int × Int => p), List.map_id']
    have hfl := List.length_filter_le (fun p : Int × Int => decide (0 ≤ p.1)) (pairsL n (n - 1))
    have hmem : ∀ p, p ∈ (pairsL n (n - 1)).filter (fun p : Int × Int => decide (0 ≤ p.1)) ↔ ∃ a b, 1 ≤ a ∧ a ≤ b ∧ b < n ∧ Nat.gcd n (Nat.gcd a b) = 1 ∧ p = ((E1 n a b : Int), (E2 n a b : Int)) := fun p => by
      rw [List.mem_filter, mem_pairsL]
      constructor
      · rintro ⟨⟨a, b, h1, h2, h3, rfl⟩, h4⟩
        have h4 : 0 ≤ eccI n [a, b] := by simpa using h4
        unfold eccI at h4
        cases he : ecc n [a, b] with
        | none => rw [he] at h4; exact absurd h4 (by decide)
        | some e =>
          have hg := okAB_some (okN_get hok h1 h2 h3) he
          have hq := okAB_gcd (okN_get hok h1 h2 h3) hg
          exact ⟨a, b, h1, h2, h3, hg, by simp only [eccI, hq.e1, hq.e2]⟩
      · rintro ⟨a, b, h1, h2, h3, hg, rfl⟩
        have hq := okAB_gcd (okN_get hok h1 h2 h3) hg
        exact ⟨⟨a, b, h1, h2, h3, by simp only [eccI, hq.e1, hq.e2]⟩, by simp⟩
    generalize (pairsL n (n - 1)).filter (fun p : Int × Int => decide (0 ≤ p.1)) = ps at hmem hfl
    simp_arith only [toNat_nat]
    rw [comp_all (enc := p2 PyData.int PyData.int) (g := fun p => .dat (.int p.1)) (by omega) rfl (fun p hp => by exact by simp_arith only [toNat_nat]; first | done | trivial | (refine ⟨?_, ?_⟩ <;> first | rfl | trivial)), lst_LE (f := .int) (g := fun p : Int × Int => p.1)]
    have m1 : minI (ps.map fun p : Int × Int => p.1) = some (lo1 : Int) := minI_eq (by
      obtain ⟨a, b, h1, h2, h3, h4⟩ := hw1
      have hg := okAB_some (okN_get hok h1 h2 h3) h4
      exact List.mem_map.mpr ⟨_, (hmem _).mpr ⟨a, b, h1, h2, h3, hg, rfl⟩, by simp [E1, h4]⟩) (fun x hx => by
      obtain ⟨p, hp, rfl⟩ := List.mem_map.mp hx
      obtain ⟨a, b, h1, h2, h3, h4, rfl⟩ := (hmem p).mp hp
      have := (okAB_gcd (okN_get hok h1 h2 h3) h4).l1
      simp only; omega)
    have m2 : minI (ps.map fun p : Int × Int => p.2) = some (lo2 : Int) := minI_eq (by
      obtain ⟨a, b, h1, h2, h3, ⟨e, h4⟩, h5⟩ := hw2
      have hg := okAB_some (okN_get hok h1 h2 h3) h4
      exact List.mem_map.mpr ⟨_, (hmem _).mpr ⟨a, b, h1, h2, h3, hg, rfl⟩, by simp [E2, h5]⟩) (fun x hx => by
      obtain ⟨p, hp, rfl⟩ := List.mem_map.mp hx
      obtain ⟨a, b, h1, h2, h3, h4, rfl⟩ := (hmem p).mp hp
      have := (okAB_gcd (okN_get hok h1 h2 h3) h4).l2
      simp only; omega)
    simp_arith only [m1]
    rw [comp_all (enc := p2 PyData.int PyData.int) (g := fun p => .dat (.int p.2)) (by omega) rfl (fun p hp => by exact by simp_arith only [toNat_nat]; first | done | trivial | (refine ⟨?_, ?_⟩ <;> first | rfl | trivial)), lst_LE (f := .int) (g := fun p : Int × Int => p.2)]
    simp_arith only [m2]
end K97
end Eng


/-! ### Rows -/
set_option maxHeartbeats 0
namespace Eng
/-- for a number of places: the least widths, steps that have them, the two bars -/
structure Row where
  lo1 : Nat
  lo2 : Nat
  a1 : Nat
  b1 : Nat
  a2 : Nat
  b2 : Nat
  bar : Nat
  ball : Nat
def rowT : List Row := [⟨1, 1, 1, 1, 1, 1, 1, 1⟩, ⟨1, 1, 1, 2, 1, 1, 1, 1⟩, ⟨2, 1, 1, 2, 1, 2, 2, 1⟩, ⟨2, 1, 1, 2, 1, 2, 2, 1⟩, ⟨3, 2, 1, 2, 1, 2, 3, 2⟩, ⟨3, 2, 1, 2, 1, 2, 3, 2⟩, ⟨3, 2, 1, 3, 1, 2, 3, 2⟩, ⟨4, 2, 1, 2, 1, 2, 4, 2⟩, ⟨4, 2, 1, 3, 1, 4, 4, 2⟩, ⟨4, 2, 1, 3, 1, 3, 4, 2⟩, ⟨5, 2, 1, 3, 2, 3, 4, 2⟩, ⟨5, 2, 1, 3, 1, 5, 5, 2⟩, ⟨5, 3, 1, 3, 1, 3, 5, 3⟩, ⟨5, 3, 1, 4, 1, 3, 5, 3⟩, ⟨5, 3, 1, 7, 1, 4, 5, 3⟩, ⟨6, 3, 1, 3, 1, 3, 6, 3⟩, ⟨6, 3, 1, 4, 1, 4, 6, 3⟩, ⟨6, 3, 1, 4, 1, 4, 6, 3⟩, ⟨7, 3, 1, 3, 1, 8, 6, 3⟩, ⟨6, 3, 1, 9, 1, 6, 6, 3⟩, ⟨7, 3, 1, 4, 1, 6, 7, 3⟩, ⟨7, 3, 1, 4, 1, 5, 7, 3⟩, ⟨7, 3, 1, 5, 3, 4, 7, 3⟩, ⟨8, 3, 1, 4, 1, 7, 7, 3⟩, ⟨7, 4, 1, 8, 1, 4, 7, 4⟩, ⟨8, 4, 1, 4, 1, 4, 7, 4⟩, ⟨8, 4, 1, 5, 1, 5, 8, 4⟩, ⟨8, 4, 1, 5, 1, 5, 8, 4⟩, ⟨8, 4, 1, 9, 1, 8, 8, 4⟩, ⟨8, 4, 1, 12, 1, 7, 8, 4⟩, ⟨9, 4, 1, 5, 1, 7, 8, 4⟩, ⟨8, 4, 1, 10, 1, 5, 8, 4⟩, ⟨9, 4, 1, 5, 1, 6, 9, 4⟩, ⟨9, 4, 1, 6, 1, 10, 9, 4⟩, ⟨9, 4, 1, 11, 1, 8, 9, 4⟩, ⟨9, 4, 1, 11, 1, 8, 9, 4⟩, ⟨9, 4, 1, 9, 1, 16, 9, 4⟩, ⟨9, 4, 1, 15, 1, 7, 9, 4⟩, ⟨9, 4, 1, 12, 4, 5, 9, 4⟩]
def rowN (n : Nat) : Row := rowT.getD (n - 2) ⟨0, 0, 0, 0, 0, 0, 0, 0⟩
def eqO (o : Option Nat) (k : Nat) : Bool := match o with
  | none => false
  | some e => Nat.beq e k
def someO (o : Option Nat) : Bool := match o with
  | none => false
  | some e => true
def rowOk (n : Nat) : Bool := okN n (rowN n).lo1 (rowN n).lo2 && (Nat.ble 1 (rowN n).a1 && Nat.ble (rowN n).a1 (rowN n).b1 && Nat.blt (rowN n).b1 n && eqO (ecc n [(rowN n).a1, (rowN n).b1]) (rowN n).lo1) &&
  (Nat.ble 1 (rowN n).a2 && Nat.ble (rowN n).a2 (rowN n).b2 && Nat.blt (rowN n).b2 n && someO (ecc n [(rowN n).a2, (rowN n).b2]) && eqO (ecc n (both n (rowN n).a2 (rowN n).b2)) (rowN n).lo2) &&
  (Nat.ble (rowN n).bar (rowN n).lo1) && (if max (rowN n).ball 1 + 2 ≤ n then eqO (ecc n (both n (max (rowN n).ball 1) (max (rowN n).ball 1 + 1))) (rowN n).ball else true) && Nat.ble (rowN n).ball 4
theorem rows0 : ((List.range 18).all fun i => rowOk (i + 2)) = true := by decide +kernel
theorem rows1 : ((List.range 7).all fun i => rowOk (i + 20)) = true := by decide +kernel
theorem rows2 : ((List.range 5).all fun i => rowOk (i + 27)) = true := by decide +kernel
theorem rows3 : ((List.range 4).all fun i => rowOk (i + 32)) = true := by decide +kernel
theorem rows4 : ((List.range 3).all fun i => rowOk (i + 36)) = true := by decide +kernel
theorem rows5 : ((List.range 2).all fun i => rowOk (i + 39)) = true := by decide +kernel
theorem row_ok' (n : Nat) (h : 2 ≤ n) (h' : n ≤ 40) : rowOk n = true := by
  have key : ∀ a m, ((List.range m).all fun i => rowOk (i + a)) = true → a ≤ n → n < a + m → rowOk n = true := fun a m h h1 h2 => by
    have := List.all_eq_true.mp h (n - a) (List.mem_range.mpr (by omega))
    rwa [Nat.sub_add_cancel h1] at this
  by_cases c0 : n < 20
  · exact key 2 18 rows0 (by omega) (by omega)
  by_cases c1 : n < 27
  · exact key 20 7 rows1 (by omega) (by omega)
  by_cases c2 : n < 32
  · exact key 27 5 rows2 (by omega) (by omega)
  by_cases c3 : n < 36
  · exact key 32 4 rows3 (by omega) (by omega)
  by_cases c4 : n < 39
  · exact key 36 3 rows4 (by omega) (by omega)
  by_cases c5 : n < 41
  · exact key 39 2 rows5 (by omega) (by omega)
  omega
end Eng

/-! ### T12 -/
set_option maxHeartbeats 0
namespace Eng
namespace K97
open PySem L2
def barsOk (n : Nat) : Bool := isRes (run prg 10 15 [.dat (.int n)]) (.int (rowN n).bar) 1 && isRes (run prg 10 11 [.dat (.int 2), .dat (.int n)]) (.int (rowN n).ball) 2 && isRes (run prg 10 35 [.dat (.int n)]) (.int (rowN n).bar) 1 && isRes (run prg 10 36 [.dat (.int n)]) (.int (rowN n).ball) 1 &&
  (if 9 < n then isRes (run prg 10 37 [.dat (.int n)]) (.tuple [.int (rowN n).lo1, .int (rowN n).lo2]) 1 else true)
theorem bars40 : ((List.range 39).all fun i => barsOk (i + 2)) = true := by decide +kernel
structure BarsQ (n : Nat) : Prop where
  bar : run prg 10 15 [.dat (.int n)] = some (.dat (.int (rowN n).bar), [none])
  ball : run prg 10 11 [.dat (.int 2), .dat (.int n)] = some (.dat (.int (rowN n).ball), [none, none])
  lbar : run prg 10 35 [.dat (.int n)] = some (.dat (.int (rowN n).bar), [none])
  lball : run prg 10 36 [.dat (.int n)] = some (.dat (.int (rowN n).ball), [none])
  loops : 9 < n → run prg 10 37 [.dat (.int n)] = some (.dat (.tuple [.int (rowN n).lo1, .int (rowN n).lo2]), [none])
theorem bars_ok (n : Nat) (h : 2 ≤ n) (h' : n ≤ 40) : BarsQ n := by
  have := List.all_eq_true.mp bars40 (n - 2) (List.mem_range.mpr (by omega))
  rw [Nat.sub_add_cancel h] at this
  unfold barsOk at this
  simp only [Bool.and_eq_true] at this
  obtain ⟨⟨⟨⟨a, b⟩, c⟩, d⟩, e⟩ := this
  refine ⟨isRes_eq a, isRes_eq b, isRes_eq c, isRes_eq d, fun h9 => ?_⟩
  rw [if_pos h9] at e
  exact isRes_eq e
/-- what the table says of n -/
structure RowQ (n : Nat) : Prop where
  ok : okN n (rowN n).lo1 (rowN n).lo2 = true
  w1 : ∃ a b, 1 ≤ a ∧ a ≤ b ∧ b < n ∧ ecc n [a, b] = some (rowN n).lo1
  w2 : ∃ a b, 1 ≤ a ∧ a ≤ b ∧ b < n ∧ (∃ e, ecc n [a, b] = some e) ∧ ecc n (both n a b) = some (rowN n).lo2
  bar : (rowN n).bar ≤ (rowN n).lo1
  kb : max (rowN n).ball 1 + 2 ≤ n → ecc n (both n (max (rowN n).ball 1) (max (rowN n).ball 1 + 1)) = some (rowN n).ball
  b4 : (rowN n).ball ≤ 4
theorem eqO_ok {o : Option Nat} {k : Nat} (h : eqO o k = true) : o = some k := by
  cases o with
  | none => cases h
  | some e => rw [Nat.eq_of_beq_eq_true h]
theorem someO_ok {o : Option Nat} (h : someO o = true) : ∃ e, o = some e := by
  cases o with
  | none => cases h
  | some e => exact ⟨e, rfl⟩
theorem row_ok (n : Nat) (h : 2 ≤ n) (h' : n ≤ 40) : RowQ n := by
  have := row_ok' n h h'
  unfold rowOk at this
  simp only [Bool.and_eq_true] at this
  obtain ⟨⟨⟨⟨⟨a, ⟨⟨b1, b2⟩, b3⟩, b4⟩, ⟨⟨⟨c1, c2⟩, c3⟩, c4⟩, c5⟩, d⟩, e⟩, f⟩ := this
  refine ⟨a, ⟨_, _, Nat.le_of_ble_eq_true b1, Nat.le_of_ble_eq_true b2, by have := Nat.le_of_ble_eq_true b3; omega, eqO_ok b4⟩, ⟨_, _, Nat.le_of_ble_eq_true c1, Nat.le_of_ble_eq_true c2, by have := Nat.le_of_ble_eq_true c3; omega, someO_ok c4, eqO_ok c5⟩, Nat.le_of_ble_eq_true d, fun hk => ?_, Nat.le_of_ble_eq_true f⟩
  rw [if_pos hk] at e
  exact eqO_ok e
theorem any_order {n lo1 lo2 : Nat} (hok : okN n lo1 lo2 = true) {a b : Nat} (ha : 1 ≤ a) (ha' : a < n) (hb : 1 ≤ b) (hb' : b < n) (hg : Nat.gcd n (Nat.gcd a b) = 1) : ABQ n lo1 lo2 a b := by
  by_cases h : a ≤ b
  · exact okAB_gcd (okN_get hok ha h hb') hg
  · have q := okAB_gcd (okN_get hok hb (by omega) ha') (by rw [Nat.gcd_comm b a]; exact hg)
    have e1 : ecc n [a, b] = ecc n [b, a] := ecc_perm (by omega) (by intro x; simp [or_comm]) (steps2 ha ha' hb hb')
    have e2 : ecc n (both n a b) = ecc n (both n b a) := ecc_perm (by omega) (by intro x; simp [both]; grind) (steps4 ha ha' hb hb')
    have f1 : E1 n a b = E1 n b a := by unfold E1; rw [e1]
    have f2 : E2 n a b = E2 n b a := by unfold E2; rw [e2]
    exact ⟨by rw [e1, f1]; exact q.e1, by rw [e2, f2]; exact q.e2, by rw [f1]; exact q.l1, by rw [f2]; exact q.l2⟩
theorem any_some {n lo1 lo2 : Nat} (hok : okN n lo1 lo2 = true) {a b e : Nat} (ha : 1 ≤ a) (ha' : a < n) (hb : 1 ≤ b) (hb' : b < n) (he : ecc n [a, b] = some e) : Nat.gcd n (Nat.gcd a b) = 1 := by
  by_cases h : a ≤ b
  · exact okAB_some (okN_get hok ha h hb') he
  · have e1 : ecc n [a, b] = ecc n [b, a] := ecc_perm (by omega) (by intro x; simp [or_comm]) (steps2 ha ha' hb hb')
    rw [e1] at he
    have := okAB_some (okN_get hok hb (by omega) ha') he
    rwa [Nat.gcd_comm b a] at this
theorem pick_ok (k : Nat) {B : Bag} (hB : B.Ok) (xs : List Int) (h0 : xs ≠ []) (h1 : xs.length < 1000000) : ∃ (x : Int) (B' : Bag), run prg (k + 2) 23 [bagT B, .dat (DE .int xs)] = some (.dat (.int x), [some (bagT B'), none]) ∧ B'.Ok ∧ x ∈ xs := by
  have hl := List.length_pos_iff.mpr h0
  obtain ⟨v, B1, d1, hB1, hv⟩ := draw_ok k hB (xs.length : Int) (by omega) (by omega)
  have hv' : v < xs.length := by omega
  refine ⟨xs.getD v 0, B1, ?_, hB1, ?_⟩
  · apply go_eq
    rw [e23]
    apply go_run
    simp_arith only [f23, d1]
  · rw [List.getD_eq_getElem?_getD, List.getElem?_eq_getElem hv']
    exact List.getElem_mem hv'
theorem loops_best_ok (k : Nat) (m : Nat) (hm : m ≤ 4) : run prg (k + 2) 17 [.dat (.int m)] = some (.dat (.tuple [.int (2 * (m : Int) * m + 2 * m + 1), .int m, .int (m + 1)]), [none]) := by
  have h1 : run prg (k + 1) 16 [.dat (.int m)] = some (.dat (.int (2 * (m : Int) * m + 2 * m + 1)), [none]) := by
    apply go_eq
    rw [e16]
    apply go_run
    simp_arith only [f16]
  apply go_eq
  rw [e17]
  apply go_run
  simp_arith only [f17, h1]
end K97
end Eng


/-! ### T13 -/
namespace Eng
namespace K97
open PySem L2
theorem good4 {a b c d : Int} : GoodD 1 (.tuple [.int a, .int b, .int c, .int d]) := .tup (by simp) (by
  intro x hx; simp at hx; rcases hx with rfl | rfl | rfl | rfl <;> exact .int _)
theorem good3 {a b c : Int} : GoodD 1 (.tuple [.int a, .int b, .int c]) := .tup (by simp) (by
  intro x hx; simp at hx; rcases hx with rfl | rfl | rfl <;> exact .int _)
theorem good2 {a b : Int} : GoodD 1 (.tuple [.int a, .int b]) := .tup (by simp) (by
  intro x hx; simp at hx; rcases hx with rfl | rfl <;> exact .int _)
theorem are_loops_right_ok {B : Bag} (hB : B.Ok) : ∃ B' : Bag, run prg 11 38 [bagT B] = some (.dat (.bool true), [some (bagT B')]) ∧ B'.Ok := by
  suffices h : Go (run prg 11 38 [bagT B]) fun r => ∃ B' : Bag, r = (.dat (.bool true), [some (bagT B')]) ∧ B'.Ok by
    obtain ⟨r, e, B', rfl, h⟩ := h
    exact ⟨B', e, h⟩
  rw [e38]
  apply go_run
  obtain ⟨w, B1, d1, hB1, hw⟩ := draw_ok 9 hB 12 (by omega) (by omega)
  obtain ⟨v2, B2, d2, hB2, hv2⟩ := draw_ok 9 hB1 2 (by omega) (by omega)
  simp_arith only [f38, d1, d2]
  apply go_seq
  refine Go.mono (Q := fun r => ∃ s, r = .nx s ∧ ∃ (N : Nat) (B : Bag), s = [some (bagT B), some (.dat (.int N)), none, none, none, none, none, none, some (.dat (.int w)), some (.dat (.bool (decide ((v2 : Int) = 0)))), none, none, none, none, none, none] ∧ B.Ok ∧ 2 ≤ N ∧ N ≤ 40) ?_ ?_
  · by_cases c1 : (w : Int) < 4
    · obtain ⟨v, B3, d3, hB3, hv⟩ := draw_ok 9 hB2 8 (by omega) (by omega)
      have e1 : 2 + (v : Int) = ((2 + v : Nat) : Int) := by omega
      simp_arith only [c1, d3, e1]
      exact ⟨_, rfl, 2 + v, B3, rfl, hB3, by omega, by omega⟩
    · by_cases c2 : (w : Int) < 10
      · obtain ⟨v, B3, d3, hB3, hv⟩ := draw_ok 9 hB2 14 (by omega) (by omega)
        have e1 : 10 + (v : Int) = ((10 + v : Nat) : Int) := by omega
        simp_arith only [c1, c2, d3, e1]
        exact ⟨_, rfl, 10 + v, B3, rfl, hB3, by omega, by omega⟩
      · obtain ⟨v, B3, d3, hB3, hv⟩ := draw_ok 9 hB2 9 (by omega) (by omega)
        have e1 : 24 + (v : Int) = ((24 + v : Nat) : Int) := by omega
        simp_arith only [c1, c2, d3, e1]
        exact ⟨_, rfl, 24 + v, B3, rfl, hB3, by omega, by omega⟩
  rintro r ⟨s, rfl, N, B3, rfl, hB3, hN2, hN40⟩
  simp_arith only [toNat_nat]
  apply go_seq
  refine Go.mono (Q := fun r => ∃ s, r = .nx s ∧ ∃ (N : Nat) (B : Bag), s = [some (bagT B), some (.dat (.int N)), none, none, none, none, none, none, some (.dat (.int w)), some (.dat (.bool (decide ((v2 : Int) = 0)))), none, none, none, none, none, none] ∧ B.Ok ∧ 2 ≤ N ∧ N ≤ 40) ?_ ?_
  · by_cases c1 : (w : Int) = 11
    · obtain ⟨u, B4, d4, hB4, hu⟩ := draw_ok 9 hB3 8 (by omega) (by omega)
      obtain ⟨x, B5, d5, hB5, hx⟩ := pick_ok 8 hB4 [40, 39, 33 + (u : Int), 12, 20, 25, 27, 32] (by simp) (by simp)
      have d5' : run prg 10 23 [bagT B4, .dat (.list [.int 40, .int 39, .int (33 + (u : Int)), .int 12, .int 20, .int 25, .int 27, .int 32])] = some (.dat (.int x), [some (bagT B5), none]) := d5
      have hx' : 2 ≤ x ∧ x ≤ 40 := by
        simp only [List.mem_cons, List.not_mem_nil, or_false] at hx
        omega
      obtain ⟨N, rfl⟩ := Int.eq_ofNat_of_zero_le (show 0 ≤ x by omega)
      simp_arith only [c1, d4, d5', w_Kl (show ([.dat (.int 40), .dat (.int 39), .dat (.int (33 + (u : Int))), .dat (.int 12), .dat (.int 20), .dat (.int 25), .dat (.int 27), .dat (.int 32)] : List T).length ≤ 1000000 by simp)]
      exact ⟨_, rfl, N, B5, rfl, hB5, by omega, by omega⟩
    · simp_arith only [c1]
      exact ⟨_, rfl, N, B3, rfl, hB3, hN2, hN40⟩
  rintro r ⟨s, rfl, N, B3, rfl, hB3, hN2, hN40⟩
  have hbars := bars_ok N hN2 hN40
  have hrow := row_ok N hN2 hN40
  have hdue : run prg 10 37 [.dat (.int N)] = some (.dat (.tuple [.int (rowN N).lo1, .int (rowN N).lo2]), [none]) := by
    by_cases h : 9 < N
    · exact hbars.loops h
    · exact law_loops_ok 7 N hN2 (by omega) hrow.ok hrow.w1 hrow.w2
  have htold := loops_looked_ok 6 N hN2 (by omega) hrow.ok hrow.w1 hrow.w2
  have hs1 := same_ok 8 (good2 (a := (rowN N).lo1) (b := (rowN N).lo2))
  have hs2 := same_ok 8 (good4 (a := (rowN N).bar) (b := (rowN N).bar) (c := (rowN N).ball) (d := (rowN N).ball))
  have hbar := hrow.bar
  have hnb : ¬ (((rowN N).lo1 : Int) < ((rowN N).bar : Int)) := by omega
  have b1 := hbars.bar
  have b2 := hbars.ball
  have b3 := hbars.lbar
  have b4 := hbars.lball
  simp_arith only [hdue, htold, hs1, b1, b2, b3, b4, hs2, hnb]
  generalize hlo1 : (rowN N).lo1 = lo1 at *
  generalize hlo2 : (rowN N).lo2 = lo2 at *
  generalize hball : (rowN N).ball = ball at *
  apply go_seq
  refine for_range (fun _ s => ∃ (B : Bag), ∃ (o_due o_found o_turn o_k o_best o_way o_least o_own o_widths o_a o_b : Option T), s = [some (bagT B), some (.dat (.int N)), o_due, some (.dat (.tuple [.int lo1, .int lo2])), o_found, o_turn, o_k, o_best, o_way, some (.dat (.bool (decide ((v2 : Int) = 0)))), o_least, some (.dat (.int ball)), o_own, o_widths, o_a, o_b] ∧ B.Ok) ?_ ?_ ?_
  · exact ⟨B3, _, _, _, _, _, _, _, _, _, _, _, rfl, hB3⟩
  · rintro i hi s ⟨B, o1, o2, o3, o4, o5, o6, o7, o8, o9, o10, o11, rfl, hB⟩
    obtain ⟨va, B4, d4, hB4, hva⟩ := draw_ok 9 hB ((N : Int) - 1) (by omega) (by omega)
    obtain ⟨vb, B5, d5, hB5, hvb⟩ := draw_ok 9 hB4 ((N : Int) - 1) (by omega) (by omega)
    obtain ⟨a, ha⟩ : ∃ a, a = 1 + va := ⟨_, rfl⟩
    obtain ⟨b, hb⟩ : ∃ b, b = 1 + vb := ⟨_, rfl⟩
    have ea : 1 + (va : Int) = (a : Int) := by omega
    have eb : 1 + (vb : Int) = (b : Int) := by omega
    have ha1 : 1 ≤ a := by omega
    have ha2 : a < N := by omega
    have hb1 : 1 ≤ b := by omega
    have hb2 : b < N := by omega
    have hown := law_both_ok 8 N a b (by omega) ha1 ha2 hb1 hb2
    have hown1 := law_both_ok 8 N 1 b (by omega) (by omega) (by omega) hb1 hb2
    simp_arith only [d4, d5, ea, eb, hown]
    apply go_seq
    refine Go.mono (Q := fun r => ∃ s, r = .nx s ∧ ∃ (a e1 e2 : Nat), ∃ (o_due o_found o_k o_best o_way o_least o_widths : Option T), s = [some (bagT B5), some (.dat (.int N)), o_due, some (.dat (.tuple [.int lo1, .int lo2])), o_found, some (.dat (.int i)), o_k, o_best, o_way, some (.dat (.bool (decide ((v2 : Int) = 0)))), o_least, some (.dat (.int ball)), some (.dat (.tuple [.int e1, .int e2])), o_widths, some (.dat (.int a)), some (.dat (.int b))] ∧ 1 ≤ a ∧ a < N ∧ Nat.gcd N (Nat.gcd a b) = 1 ∧ ecc N [a, b] = some e1 ∧ ecc N (both N a b) = some e2 ∧ lo1 ≤ e1 ∧ lo2 ≤ e2) ?_ ?_
    · cases he : ecc N [a, b] with
      | some e =>
        have hg := any_some hrow.ok ha1 ha2 hb1 hb2 he
        have q := any_order hrow.ok ha1 ha2 hb1 hb2 hg
        have h1 : eccI N [a, b] = ((E1 N a b : Nat) : Int) := by unfold eccI; rw [q.e1]
        have h2 : eccI N (both N a b) = ((E2 N a b : Nat) : Int) := by unfold eccI; rw [q.e2]
        have h3 : ¬ (((E1 N a b : Nat) : Int) < 0) := by omega
        simp_arith only [h1, h2, h3]
        exact ⟨_, rfl, a, _, _, _, _, _, _, _, _, _, rfl, ha1, ha2, hg, q.e1, q.e2, hlo1 ▸ q.l1, hlo2 ▸ q.l2⟩
      | none =>
        have hg : Nat.gcd N (Nat.gcd 1 b) = 1 := by rw [Nat.gcd_one_left, Nat.gcd_one_right]
        have q := any_order hrow.ok (Nat.le_refl 1) (by omega) hb1 hb2 hg
        have h0 : eccI N [a, b] = -1 := by unfold eccI; rw [he]
        have h1 : eccI N [1, b] = ((E1 N 1 b : Nat) : Int) := by unfold eccI; rw [q.e1]
        have h2 : eccI N (both N 1 b) = ((E2 N 1 b : Nat) : Int) := by unfold eccI; rw [q.e2]
        have h3 : ((-1 : Int) < 0) := by decide
        have hown1' : run prg 10 34 [.dat (.int N), .dat (.int 1), .dat (.int b)] = some (.dat (.tuple [.int (eccI N [1, b]), .int (eccI N (both N 1 b))]), [none, none, none]) := hown1
        simp_arith only [h0, h3, hown1', h1, h2]
        exact ⟨_, rfl, 1, _, _, _, _, _, _, _, _, _, rfl, by omega, by omega, hg, q.e1, q.e2, hlo1 ▸ q.l1, hlo2 ▸ q.l2⟩
    · rintro r ⟨s, rfl, a, e1, e2, o1, o2, o3, o4, o5, o6, o7, rfl, ha1, ha2, hg, he1, he2, hl1, hl2⟩
      have hw := loop_widths_ok 7 N a b (by omega) ha1 ha2 hb1 hb2 hg he1 he2
      have hs := same_ok 8 (good2 (a := e1) (b := e2))
      have n1 : ¬ ((e1 : Int) < (lo1 : Int)) := by omega
      have n2 : ¬ ((e2 : Int) < (lo2 : Int)) := by omega
      simp_arith only [hw, hs, n1, n2]
      exact ⟨B5, _, _, _, _, _, _, _, _, _, _, _, rfl, hB5⟩
  · rintro s ⟨B, o1, o2, o3, o4, o5, o6, o7, o8, o9, o10, o11, rfl, hB⟩
    obtain ⟨k, hk⟩ : ∃ k, k = max ball 1 := ⟨_, rfl⟩
    have ek : max (ball : Int) 1 = (k : Int) := by omega
    have hk4 : k ≤ 4 := by have := hrow.b4; omega
    have hbest := loops_best_ok 8 k hk4
    have hs := same_ok 8 (good3 (a := 2 * (k : Int) * k + 2 * k + 1) (b := k) (c := (k : Int) + 1))
    by_cases hc : (k : Int) + 2 ≤ (N : Int)
    · have hg : Nat.gcd N (Nat.gcd k (k + 1)) = 1 := by
        have : Nat.gcd k (k + 1) = 1 := by simp
        rw [this, Nat.gcd_one_right]
      have q := any_order hrow.ok (a := k) (b := k + 1) (by omega) (by omega) (by omega) (by omega) hg
      have hkb := hrow.kb (by rw [hball, ← hk]; omega)
      rw [hball, ← hk] at hkb
      have hw := loop_widths_ok 7 N k (k + 1) (by omega) (by omega) (by omega) (by omega) (by omega) hg q.e1 hkb
      have ek1 : (k : Int) + 1 = ((k + 1 : Nat) : Int) := by omega
      simp_arith only [ek, hc]
      rw [ek1]
      simp_arith only [hw, hbest, hs]
      exact ⟨B, rfl, hB⟩
    · simp_arith only [ek, hc, hbest, hs]
      exact ⟨B, rfl, hB⟩
end K97
end Eng


/-! ### T14 -/
namespace Eng
namespace K97
open PySem L2
theorem plain (ns : List Int) (hl : ns.length ≤ 63) : ∃ us, run prg 12 39 [.scr ns] = some (.dat (.bool true), us) := by
  suffices h : Go (run prg 12 39 [.scr ns]) fun r => ∃ us, r = (.dat (.bool true), us) by
    obtain ⟨r, e, us, rfl⟩ := h
    exact ⟨us, e⟩
  rw [e39]
  apply go_run
  obtain ⟨r, e0, B, rfl, hB⟩ := own_bag_ok 10 ns hl
  obtain ⟨B1, e1, hB1⟩ := are_webs_right_ok 1 hB
  obtain ⟨B2, e2, hB2⟩ := are_loops_right_ok hB1
  have h3 := webs_looked_ok 6 3 (by omega) (by omega)
  rw [looked3] at h3
  have hrow := row_ok 2 (by omega) (by omega)
  have h2 := loops_looked_ok 7 2 (by omega) (by omega) hrow.ok hrow.w1 hrow.w2
  have h3' : run prg 11 19 [.dat (.int 3)] = some (.dat (.tuple [.tuple [.int 0, .int (-1), .int 4], .tuple [.int 0, .int 2, .int 3], .tuple [.int 3, .int 1, .int 1]]), [none]) := h3
  have h2' : run prg 11 20 [.dat (.int 2)] = some (.dat (.tuple [.int 1, .int 1]), [none]) := h2
  have hs := same_ok 7 (m := 3) (d := .tuple [.tuple [.tuple [.int 0, .int (-1), .int 4], .tuple [.int 0, .int 2, .int 3], .tuple [.int 3, .int 1, .int 1]], .tuple [.int 1, .int 1]]) (.tup (by simp) (by
    intro x hx; simp at hx
    rcases hx with rfl | rfl
    · exact .tup (by simp) (by
        intro x hx; simp at hx
        rcases hx with rfl | rfl | rfl <;> exact good3)
    · exact .tup (by simp) (by
        intro x hx; simp at hx
        rcases hx with rfl; exact .int _)))
  simp_arith only [f39, e0, e1, e2, h3', h2', hs]
  exact ⟨_, rfl⟩
end K97
end Eng


/-! ## the tables of k97 -/
namespace Eng
namespace K97
open PySem PySem.Spec PyProof.Rows L2
def top (i : Nat) : PySem.Stmt := PySem.Challenge.pw_ringsandsteps_k97_whole_looks.main.body.getD i (.Pass ⟨0, 0, 0, 0⟩)
def mk : MK := ⟨(([("partners" : Str), ("rows_from" : Str), ("all_rows" : Str), ("web_width" : Str), ("near_lists" : Str), ("heads_behind" : Str), ("way_back" : Str), ("ring_at_tie" : Str), ("any_ring" : Str), ("least_ring" : Str), ("ball_points" : Str), ("ball_bar" : Str), ("farthest" : Str), ("commuting_widths" : Str), ("loop_widths" : Str), ("loops_bar" : Str), ("loops_most" : Str), ("loops_best" : Str), ("all_webs" : Str), ("webs_looked" : Str), ("loops_looked" : Str), ("_law_own_bag" : Str), ("_law_draw" : Str), ("_law_pick" : Str), ("_law_same" : Str), ("_law_far" : Str), ("_law_near" : Str), ("_law_ring" : Str), ("_law_width" : Str), ("_law_all_pairs" : Str)] : List Str) ++ ([("_law_webs" : Str), ("_law_five" : Str), ("_law_are_webs_right" : Str), ("_law_loop" : Str), ("_law_both" : Str), ("_law_least_bar" : Str), ("_law_least_ball" : Str), ("_law_loops" : Str), ("_law_are_loops_right" : Str), ("law" : Str)] : List Str)), [(9, 0, ([("web" : Str)] : List Str), [0]), (3, 0, ([("web" : Str)] : List Str), [0]), (19, 0, ([("n" : Str)] : List Str), [0]), (17, 0, ([("k" : Str)] : List Str), [0]), (14, 0, ([("n" : Str), ("a" : Str), ("b" : Str)] : List Str), [0, 1, 2]), (11, 0, ([("m" : Str), ("n" : Str)] : List Str), [0, 1]), (15, 0, ([("n" : Str)] : List Str), [0]), (20, 0, ([("n" : Str)] : List Str), [0])], ([("abs" : Str), ("all" : Str), ("bool" : Str), ("enumerate" : Str), ("int" : Str), ("isinstance" : Str), ("len" : Str), ("list" : Str), ("max" : Str), ("min" : Str), ("range" : Str), ("reversed" : Str), ("sorted" : Str), ("sum" : Str), ("tuple" : Str), ("zip" : Str)] : List Str), ([("comb" : Str), ("gcd" : Str)] : List Str)⟩
def d0 : He.DefD := ⟨("partners", none), "partners", "partners", defArgs (top 2), defBody (top 2), defScope (top 2), [], []⟩
def d1 : He.DefD := ⟨("rows_from", none), "rows_from", "rows_from", defArgs (top 4), defBody (top 4), defScope (top 4), [], []⟩
def d2 : He.DefD := ⟨("all_rows", none), "all_rows", "all_rows", defArgs (top 5), defBody (top 5), defScope (top 5), [], []⟩
def d3 : He.DefD := ⟨("web_width", none), "web_width", "web_width", defArgs (top 6), defBody (top 6), defScope (top 6), [], []⟩
def d4 : He.DefD := ⟨("near_lists", none), "near_lists", "near_lists", defArgs (top 11), defBody (top 11), defScope (top 11), [], []⟩
def d5 : He.DefD := ⟨("heads_behind", none), "heads_behind", "heads_behind", defArgs (top 12), defBody (top 12), defScope (top 12), [], []⟩
def d6 : He.DefD := ⟨("way_back", none), "way_back", "way_back", defArgs (top 13), defBody (top 13), defScope (top 13), [], []⟩
def d7 : He.DefD := ⟨("ring_at_tie", none), "ring_at_tie", "ring_at_tie", defArgs (top 14), defBody (top 14), defScope (top 14), [], []⟩
def d8 : He.DefD := ⟨("any_ring", none), "any_ring", "any_ring", defArgs (top 15), defBody (top 15), defScope (top 15), [], []⟩
def d9 : He.DefD := ⟨("least_ring", none), "least_ring", "least_ring", defArgs (top 16), defBody (top 16), defScope (top 16), [], []⟩
def d10 : He.DefD := ⟨("ball_points", none), "ball_points", "ball_points", defArgs (top 18), defBody (top 18), defScope (top 18), [], []⟩
def d11 : He.DefD := ⟨("ball_bar", none), "ball_bar", "ball_bar", defArgs (top 19), defBody (top 19), defScope (top 19), [], []⟩
def d12 : He.DefD := ⟨("farthest", none), "farthest", "farthest", defArgs (top 20), defBody (top 20), defScope (top 20), [], []⟩
def d13 : He.DefD := ⟨("commuting_widths", none), "commuting_widths", "commuting_widths", defArgs (top 21), defBody (top 21), defScope (top 21), [], []⟩
def d14 : He.DefD := ⟨("loop_widths", none), "loop_widths", "loop_widths", defArgs (top 23), defBody (top 23), defScope (top 23), [], []⟩
def d15 : He.DefD := ⟨("loops_bar", none), "loops_bar", "loops_bar", defArgs (top 24), defBody (top 24), defScope (top 24), [], []⟩
def d16 : He.DefD := ⟨("loops_most", none), "loops_most", "loops_most", defArgs (top 25), defBody (top 25), defScope (top 25), [], []⟩
def d17 : He.DefD := ⟨("loops_best", none), "loops_best", "loops_best", defArgs (top 26), defBody (top 26), defScope (top 26), [], []⟩
def d18 : He.DefD := ⟨("all_webs", none), "all_webs", "all_webs", defArgs (top 28), defBody (top 28), defScope (top 28), [], []⟩
def d19 : He.DefD := ⟨("webs_looked", none), "webs_looked", "webs_looked", defArgs (top 29), defBody (top 29), defScope (top 29), [], []⟩
def d20 : He.DefD := ⟨("loops_looked", none), "loops_looked", "loops_looked", defArgs (top 30), defBody (top 30), defScope (top 30), [], []⟩
def d21 : He.DefD := ⟨("_law_own_bag", none), "_law_own_bag", "_law_own_bag", defArgs (top 32), defBody (top 32), defScope (top 32), [], []⟩
def d22 : He.DefD := ⟨("_law_draw", none), "_law_draw", "_law_draw", defArgs (top 33), defBody (top 33), defScope (top 33), [], []⟩
def d23 : He.DefD := ⟨("_law_pick", none), "_law_pick", "_law_pick", defArgs (top 34), defBody (top 34), defScope (top 34), [], []⟩
def d24 : He.DefD := ⟨("_law_same", none), "_law_same", "_law_same", defArgs (top 35), defBody (top 35), defScope (top 35), [], []⟩
def d25 : He.DefD := ⟨("_law_far", none), "_law_far", "_law_far", defArgs (top 36), defBody (top 36), defScope (top 36), [], []⟩
def d26 : He.DefD := ⟨("_law_near", none), "_law_near", "_law_near", defArgs (top 37), defBody (top 37), defScope (top 37), [], []⟩
def d27 : He.DefD := ⟨("_law_ring", none), "_law_ring", "_law_ring", defArgs (top 38), defBody (top 38), defScope (top 38), [], []⟩
def d28 : He.DefD := ⟨("_law_width", none), "_law_width", "_law_width", defArgs (top 39), defBody (top 39), defScope (top 39), [], []⟩
def d29 : He.DefD := ⟨("_law_all_pairs", none), "_law_all_pairs", "_law_all_pairs", defArgs (top 40), defBody (top 40), defScope (top 40), [], []⟩
def d30 : He.DefD := ⟨("_law_webs", none), "_law_webs", "_law_webs", defArgs (top 41), defBody (top 41), defScope (top 41), [], []⟩
def d31 : He.DefD := ⟨("_law_five", none), "_law_five", "_law_five", defArgs (top 42), defBody (top 42), defScope (top 42), [], []⟩
def d32 : He.DefD := ⟨("_law_are_webs_right", none), "_law_are_webs_right", "_law_are_webs_right", defArgs (top 43), defBody (top 43), defScope (top 43), [], []⟩
def d33 : He.DefD := ⟨("_law_loop", none), "_law_loop", "_law_loop", defArgs (top 44), defBody (top 44), defScope (top 44), [], []⟩
def d34 : He.DefD := ⟨("_law_both", none), "_law_both", "_law_both", defArgs (top 45), defBody (top 45), defScope (top 45), [], []⟩
def d35 : He.DefD := ⟨("_law_least_bar", none), "_law_least_bar", "_law_least_bar", defArgs (top 46), defBody (top 46), defScope (top 46), [], []⟩
def d36 : He.DefD := ⟨("_law_least_ball", none), "_law_least_ball", "_law_least_ball", defArgs (top 47), defBody (top 47), defScope (top 47), [], []⟩
def d37 : He.DefD := ⟨("_law_loops", none), "_law_loops", "_law_loops", defArgs (top 48), defBody (top 48), defScope (top 48), [], []⟩
def d38 : He.DefD := ⟨("_law_are_loops_right", none), "_law_are_loops_right", "_law_are_loops_right", defArgs (top 49), defBody (top 49), defScope (top 49), [], []⟩
def d39 : He.DefD := ⟨("law", none), "law", "law", defArgs (top 50), defBody (top 50), defScope (top 50), [], []⟩
def fn : List He.DefD := (([d0, d1, d2, d3, d4, d5, d6, d7, d8, d9, d10, d11, d12, d13, d14, d15, d16, d17, d18, d19, d20, d21, d22, d23, d24, d25, d26, d27, d28, d29] : List He.DefD) ++ ([d30, d31, d32, d33, d34, d35, d36, d37, d38, d39] : List He.DefD))
def fa : List He.Fa := (([.glo "partners", .glo "rows_from", .glo "all_rows", .glo "web_width", .glo "near_lists", .glo "heads_behind", .glo "way_back", .glo "ring_at_tie", .glo "any_ring", .glo "least_ring", .glo "ball_points", .glo "ball_bar", .glo "farthest", .glo "commuting_widths", .glo "loop_widths", .glo "loops_bar", .glo "loops_most", .glo "loops_best", .glo "all_webs", .glo "webs_looked", .glo "loops_looked", .glo "_law_own_bag", .glo "_law_draw", .glo "_law_pick", .glo "_law_same", .glo "_law_far", .glo "_law_near", .glo "_law_ring", .glo "_law_width", .glo "_law_all_pairs"] : List He.Fa) ++ ([.glo "_law_webs", .glo "_law_five", .glo "_law_are_webs_right", .glo "_law_loop", .glo "_law_both", .glo "_law_least_bar", .glo "_law_least_ball", .glo "_law_loops", .glo "_law_are_loops_right", .glo "law", .free "abs", .free "all", .free "bool", .free "enumerate", .free "int", .free "isinstance", .free "len", .free "list", .free "max", .free "min", .free "range", .free "reversed", .free "sorted", .free "sum", .free "tuple", .free "zip"] : List He.Fa))
def msl : List (Str × Value) := [("comb", .builtin "math.comb"), ("gcd", .builtin "math.gcd")]
theorem ok0 : okSs (ckOf mk f0 (defScope (top 2))) f0.body (defBody (top 2)) = true := by decide +kernel
theorem sc0 : FnScope f0.ns f0.ps (defScope (top 2)) := ⟨rfl, rfl, rfl, by decide +kernel, rfl, by decide +kernel, by decide +kernel⟩
theorem t0 : FnD mk 0 f0 d0 where
  nm := rfl
  at_ := rfl
  dfl := rfl
  kwd := rfl
  sc := sc0
  bind := fun _ _ _ _ _ _ us hl => match us, hl with | [_], _ => rfl
  kb := fun ks perm h => by simp [mk] at h
  ok := ok0
  len := rfl
  le := by decide
theorem ok1 : okSs (ckOf mk f1 (defScope (top 4))) f1.body (defBody (top 4)) = true := by decide +kernel
theorem sc1 : FnScope f1.ns f1.ps (defScope (top 4)) := ⟨rfl, rfl, rfl, by decide +kernel, rfl, by decide +kernel, by decide +kernel⟩
theorem t1 : FnD mk 1 f1 d1 where
  nm := rfl
  at_ := rfl
  dfl := rfl
  kwd := rfl
  sc := sc1
  bind := fun _ _ _ _ _ _ us hl => match us, hl with | [_, _], _ => rfl
  kb := fun ks perm h => by simp [mk] at h
  ok := ok1
  len := rfl
  le := by decide
theorem ok2 : okSs (ckOf mk f2 (defScope (top 5))) f2.body (defBody (top 5)) = true := by decide +kernel
theorem sc2 : FnScope f2.ns f2.ps (defScope (top 5)) := ⟨rfl, rfl, rfl, by decide +kernel, rfl, by decide +kernel, by decide +kernel⟩
theorem t2 : FnD mk 2 f2 d2 where
  nm := rfl
  at_ := rfl
  dfl := rfl
  kwd := rfl
  sc := sc2
  bind := fun _ _ _ _ _ _ us hl => match us, hl with | [_], _ => rfl
  kb := fun ks perm h => by simp [mk] at h
  ok := ok2
  len := rfl
  le := by decide
theorem ok3 : okSs (ckOf mk f3 (defScope (top 6))) f3.body (defBody (top 6)) = true := by decide +kernel
theorem sc3 : FnScope f3.ns f3.ps (defScope (top 6)) := ⟨rfl, rfl, rfl, by decide +kernel, rfl, by decide +kernel, by decide +kernel⟩
theorem t3 : FnD mk 3 f3 d3 where
  nm := rfl
  at_ := rfl
  dfl := rfl
  kwd := rfl
  sc := sc3
  bind := fun _ _ _ _ _ _ us hl => match us, hl with | [_], _ => rfl
  kb := fun ks perm h => by
    have : ks = ([("web" : Str)] : List Str) ∧ perm = [0] := by simpa [mk] using h
    obtain ⟨rfl, rfl⟩ := this
    exact ⟨⟨0, rfl⟩, fun _ _ _ _ _ _ ws hl => match ws, hl with | [_], _ => rfl⟩
  ok := ok3
  len := rfl
  le := by decide
theorem ok4 : okSs (ckOf mk f4 (defScope (top 11))) f4.body (defBody (top 11)) = true := by decide +kernel
theorem sc4 : FnScope f4.ns f4.ps (defScope (top 11)) := ⟨rfl, rfl, rfl, by decide +kernel, rfl, by decide +kernel, by decide +kernel⟩
theorem t4 : FnD mk 4 f4 d4 where
  nm := rfl
  at_ := rfl
  dfl := rfl
  kwd := rfl
  sc := sc4
  bind := fun _ _ _ _ _ _ us hl => match us, hl with | [_], _ => rfl
  kb := fun ks perm h => by simp [mk] at h
  ok := ok4
  len := rfl
  le := by decide
theorem ok5 : okSs (ckOf mk f5 (defScope (top 12))) f5.body (defBody (top 12)) = true := by decide +kernel
theorem sc5 : FnScope f5.ns f5.ps (defScope (top 12)) := ⟨rfl, rfl, rfl, by decide +kernel, rfl, by decide +kernel, by decide +kernel⟩
theorem t5 : FnD mk 5 f5 d5 where
  nm := rfl
  at_ := rfl
  dfl := rfl
  kwd := rfl
  sc := sc5
  bind := fun _ _ _ _ _ _ us hl => match us, hl with | [_, _, _], _ => rfl
  kb := fun ks perm h => by simp [mk] at h
  ok := ok5
  len := rfl
  le := by decide
theorem ok6 : okSs (ckOf mk f6 (defScope (top 13))) f6.body (defBody (top 13)) = true := by decide +kernel
theorem sc6 : FnScope f6.ns f6.ps (defScope (top 13)) := ⟨rfl, rfl, rfl, by decide +kernel, rfl, by decide +kernel, by decide +kernel⟩
theorem t6 : FnD mk 6 f6 d6 where
  nm := rfl
  at_ := rfl
  dfl := rfl
  kwd := rfl
  sc := sc6
  bind := fun _ _ _ _ _ _ us hl => match us, hl with | [_, _], _ => rfl
  kb := fun ks perm h => by simp [mk] at h
  ok := ok6
  len := rfl
  le := by decide
theorem ok7 : okSs (ckOf mk f7 (defScope (top 14))) f7.body (defBody (top 14)) = true := by decide +kernel
theorem sc7 : FnScope f7.ns f7.ps (defScope (top 14)) := ⟨rfl, rfl, rfl, by decide +kernel, rfl, by decide +kernel, by decide +kernel⟩
theorem t7 : FnD mk 7 f7 d7 where
  nm := rfl
  at_ := rfl
  dfl := rfl
  kwd := rfl
  sc := sc7
  bind := fun _ _ _ _ _ _ us hl => match us, hl with | [_, _], _ => rfl
  kb := fun ks perm h => by simp [mk] at h
  ok := ok7
  len := rfl
  le := by decide
theorem ok8 : okSs (ckOf mk f8 (defScope (top 15))) f8.body (defBody (top 15)) = true := by decide +kernel
theorem sc8 : FnScope f8.ns f8.ps (defScope (top 15)) := ⟨rfl, rfl, rfl, by decide +kernel, rfl, by decide +kernel, by decide +kernel⟩
theorem t8 : FnD mk 8 f8 d8 where
  nm := rfl
  at_ := rfl
  dfl := rfl
  kwd := rfl
  sc := sc8
  bind := fun _ _ _ _ _ _ us hl => match us, hl with | [_], _ => rfl
  kb := fun ks perm h => by simp [mk] at h
  ok := ok8
  len := rfl
  le := by decide
theorem ok9 : okSs (ckOf mk f9 (defScope (top 16))) f9.body (defBody (top 16)) = true := by decide +kernel
theorem sc9 : FnScope f9.ns f9.ps (defScope (top 16)) := ⟨rfl, rfl, rfl, by decide +kernel, rfl, by decide +kernel, by decide +kernel⟩
theorem t9 : FnD mk 9 f9 d9 where
  nm := rfl
  at_ := rfl
  dfl := rfl
  kwd := rfl
  sc := sc9
  bind := fun _ _ _ _ _ _ us hl => match us, hl with | [_], _ => rfl
  kb := fun ks perm h => by
    have : ks = ([("web" : Str)] : List Str) ∧ perm = [0] := by simpa [mk] using h
    obtain ⟨rfl, rfl⟩ := this
    exact ⟨⟨0, rfl⟩, fun _ _ _ _ _ _ ws hl => match ws, hl with | [_], _ => rfl⟩
  ok := ok9
  len := rfl
  le := by decide
theorem ok10 : okSs (ckOf mk f10 (defScope (top 18))) f10.body (defBody (top 18)) = true := by decide +kernel
theorem sc10 : FnScope f10.ns f10.ps (defScope (top 18)) := ⟨rfl, rfl, rfl, by decide +kernel, rfl, by decide +kernel, by decide +kernel⟩
theorem t10 : FnD mk 10 f10 d10 where
  nm := rfl
  at_ := rfl
  dfl := rfl
  kwd := rfl
  sc := sc10
  bind := fun _ _ _ _ _ _ us hl => match us, hl with | [_, _], _ => rfl
  kb := fun ks perm h => by simp [mk] at h
  ok := ok10
  len := rfl
  le := by decide
theorem ok11 : okSs (ckOf mk f11 (defScope (top 19))) f11.body (defBody (top 19)) = true := by decide +kernel
theorem sc11 : FnScope f11.ns f11.ps (defScope (top 19)) := ⟨rfl, rfl, rfl, by decide +kernel, rfl, by decide +kernel, by decide +kernel⟩
theorem t11 : FnD mk 11 f11 d11 where
  nm := rfl
  at_ := rfl
  dfl := rfl
  kwd := rfl
  sc := sc11
  bind := fun _ _ _ _ _ _ us hl => match us, hl with | [_, _], _ => rfl
  kb := fun ks perm h => by
    have : ks = ([("m" : Str), ("n" : Str)] : List Str) ∧ perm = [0, 1] := by simpa [mk] using h
    obtain ⟨rfl, rfl⟩ := this
    exact ⟨⟨1, rfl⟩, fun _ _ _ _ _ _ ws hl => match ws, hl with | [_, _], _ => rfl⟩
  ok := ok11
  len := rfl
  le := by decide
theorem ok12 : okSs (ckOf mk f12 (defScope (top 20))) f12.body (defBody (top 20)) = true := by decide +kernel
theorem sc12 : FnScope f12.ns f12.ps (defScope (top 20)) := ⟨rfl, rfl, rfl, by decide +kernel, rfl, by decide +kernel, by decide +kernel⟩
theorem t12 : FnD mk 12 f12 d12 where
  nm := rfl
  at_ := rfl
  dfl := rfl
  kwd := rfl
  sc := sc12
  bind := fun _ _ _ _ _ _ us hl => match us, hl with | [_, _], _ => rfl
  kb := fun ks perm h => by simp [mk] at h
  ok := ok12
  len := rfl
  le := by decide
theorem ok13 : okSs (ckOf mk f13 (defScope (top 21))) f13.body (defBody (top 21)) = true := by decide +kernel
theorem sc13 : FnScope f13.ns f13.ps (defScope (top 21)) := ⟨rfl, rfl, rfl, by decide +kernel, rfl, by decide +kernel, by decide +kernel⟩
theorem t13 : FnD mk 13 f13 d13 where
  nm := rfl
  at_ := rfl
  dfl := rfl
  kwd := rfl
  sc := sc13
  bind := fun _ _ _ _ _ _ us hl => match us, hl with | [_, _], _ => rfl
  kb := fun ks perm h => by simp [mk] at h
  ok := ok13
  len := rfl
  le := by decide
theorem ok14 : okSs (ckOf mk f14 (defScope (top 23))) f14.body (defBody (top 23)) = true := by decide +kernel
theorem sc14 : FnScope f14.ns f14.ps (defScope (top 23)) := ⟨rfl, rfl, rfl, by decide +kernel, rfl, by decide +kernel, by decide +kernel⟩
theorem t14 : FnD mk 14 f14 d14 where
  nm := rfl
  at_ := rfl
  dfl := rfl
  kwd := rfl
  sc := sc14
  bind := fun _ _ _ _ _ _ us hl => match us, hl with | [_, _, _], _ => rfl
  kb := fun ks perm h => by
    have : ks = ([("n" : Str), ("a" : Str), ("b" : Str)] : List Str) ∧ perm = [0, 1, 2] := by simpa [mk] using h
    obtain ⟨rfl, rfl⟩ := this
    exact ⟨⟨2, rfl⟩, fun _ _ _ _ _ _ ws hl => match ws, hl with | [_, _, _], _ => rfl⟩
  ok := ok14
  len := rfl
  le := by decide
theorem ok15 : okSs (ckOf mk f15 (defScope (top 24))) f15.body (defBody (top 24)) = true := by decide +kernel
theorem sc15 : FnScope f15.ns f15.ps (defScope (top 24)) := ⟨rfl, rfl, rfl, by decide +kernel, rfl, by decide +kernel, by decide +kernel⟩
theorem t15 : FnD mk 15 f15 d15 where
  nm := rfl
  at_ := rfl
  dfl := rfl
  kwd := rfl
  sc := sc15
  bind := fun _ _ _ _ _ _ us hl => match us, hl with | [_], _ => rfl
  kb := fun ks perm h => by
    have : ks = ([("n" : Str)] : List Str) ∧ perm = [0] := by simpa [mk] using h
    obtain ⟨rfl, rfl⟩ := this
    exact ⟨⟨0, rfl⟩, fun _ _ _ _ _ _ ws hl => match ws, hl with | [_], _ => rfl⟩
  ok := ok15
  len := rfl
  le := by decide
theorem ok16 : okSs (ckOf mk f16 (defScope (top 25))) f16.body (defBody (top 25)) = true := by decide +kernel
theorem sc16 : FnScope f16.ns f16.ps (defScope (top 25)) := ⟨rfl, rfl, rfl, by decide +kernel, rfl, by decide +kernel, by decide +kernel⟩
theorem t16 : FnD mk 16 f16 d16 where
  nm := rfl
  at_ := rfl
  dfl := rfl
  kwd := rfl
  sc := sc16
  bind := fun _ _ _ _ _ _ us hl => match us, hl with | [_], _ => rfl
  kb := fun ks perm h => by simp [mk] at h
  ok := ok16
  len := rfl
  le := by decide
theorem ok17 : okSs (ckOf mk f17 (defScope (top 26))) f17.body (defBody (top 26)) = true := by decide +kernel
theorem sc17 : FnScope f17.ns f17.ps (defScope (top 26)) := ⟨rfl, rfl, rfl, by decide +kernel, rfl, by decide +kernel, by decide +kernel⟩
theorem t17 : FnD mk 17 f17 d17 where
  nm := rfl
  at_ := rfl
  dfl := rfl
  kwd := rfl
  sc := sc17
  bind := fun _ _ _ _ _ _ us hl => match us, hl with | [_], _ => rfl
  kb := fun ks perm h => by
    have : ks = ([("k" : Str)] : List Str) ∧ perm = [0] := by simpa [mk] using h
    obtain ⟨rfl, rfl⟩ := this
    exact ⟨⟨0, rfl⟩, fun _ _ _ _ _ _ ws hl => match ws, hl with | [_], _ => rfl⟩
  ok := ok17
  len := rfl
  le := by decide
theorem ok18 : okSs (ckOf mk f18 (defScope (top 28))) f18.body (defBody (top 28)) = true := by decide +kernel
theorem sc18 : FnScope f18.ns f18.ps (defScope (top 28)) := ⟨rfl, rfl, rfl, by decide +kernel, rfl, by decide +kernel, by decide +kernel⟩
theorem t18 : FnD mk 18 f18 d18 where
  nm := rfl
  at_ := rfl
  dfl := rfl
  kwd := rfl
  sc := sc18
  bind := fun _ _ _ _ _ _ us hl => match us, hl with | [_], _ => rfl
  kb := fun ks perm h => by simp [mk] at h
  ok := ok18
  len := rfl
  le := by decide
theorem ok19 : okSs (ckOf mk f19 (defScope (top 29))) f19.body (defBody (top 29)) = true := by decide +kernel
theorem sc19 : FnScope f19.ns f19.ps (defScope (top 29)) := ⟨rfl, rfl, rfl, by decide +kernel, rfl, by decide +kernel, by decide +kernel⟩
theorem t19 : FnD mk 19 f19 d19 where
  nm := rfl
  at_ := rfl
  dfl := rfl
  kwd := rfl
  sc := sc19
  bind := fun _ _ _ _ _ _ us hl => match us, hl with | [_], _ => rfl
  kb := fun ks perm h => by
    have : ks = ([("n" : Str)] : List Str) ∧ perm = [0] := by simpa [mk] using h
    obtain ⟨rfl, rfl⟩ := this
    exact ⟨⟨0, rfl⟩, fun _ _ _ _ _ _ ws hl => match ws, hl with | [_], _ => rfl⟩
  ok := ok19
  len := rfl
  le := by decide
theorem ok20 : okSs (ckOf mk f20 (defScope (top 30))) f20.body (defBody (top 30)) = true := by decide +kernel
theorem sc20 : FnScope f20.ns f20.ps (defScope (top 30)) := ⟨rfl, rfl, rfl, by decide +kernel, rfl, by decide +kernel, by decide +kernel⟩
theorem t20 : FnD mk 20 f20 d20 where
  nm := rfl
  at_ := rfl
  dfl := rfl
  kwd := rfl
  sc := sc20
  bind := fun _ _ _ _ _ _ us hl => match us, hl with | [_], _ => rfl
  kb := fun ks perm h => by
    have : ks = ([("n" : Str)] : List Str) ∧ perm = [0] := by simpa [mk] using h
    obtain ⟨rfl, rfl⟩ := this
    exact ⟨⟨0, rfl⟩, fun _ _ _ _ _ _ ws hl => match ws, hl with | [_], _ => rfl⟩
  ok := ok20
  len := rfl
  le := by decide
theorem ok21 : okSs (ckOf mk f21 (defScope (top 32))) f21.body (defBody (top 32)) = true := by decide +kernel
theorem sc21 : FnScope f21.ns f21.ps (defScope (top 32)) := ⟨rfl, rfl, rfl, by decide +kernel, rfl, by decide +kernel, by decide +kernel⟩
theorem t21 : FnD mk 21 f21 d21 where
  nm := rfl
  at_ := rfl
  dfl := rfl
  kwd := rfl
  sc := sc21
  bind := fun _ _ _ _ _ _ us hl => match us, hl with | [_], _ => rfl
  kb := fun ks perm h => by simp [mk] at h
  ok := ok21
  len := rfl
  le := by decide
theorem ok22 : okSs (ckOf mk f22 (defScope (top 33))) f22.body (defBody (top 33)) = true := by decide +kernel
theorem sc22 : FnScope f22.ns f22.ps (defScope (top 33)) := ⟨rfl, rfl, rfl, by decide +kernel, rfl, by decide +kernel, by decide +kernel⟩
theorem t22 : FnD mk 22 f22 d22 where
  nm := rfl
  at_ := rfl
  dfl := rfl
  kwd := rfl
  sc := sc22
  bind := fun _ _ _ _ _ _ us hl => match us, hl with | [_, _], _ => rfl
  kb := fun ks perm h => by simp [mk] at h
  ok := ok22
  len := rfl
  le := by decide
theorem ok23 : okSs (ckOf mk f23 (defScope (top 34))) f23.body (defBody (top 34)) = true := by decide +kernel
theorem sc23 : FnScope f23.ns f23.ps (defScope (top 34)) := ⟨rfl, rfl, rfl, by decide +kernel, rfl, by decide +kernel, by decide +kernel⟩
theorem t23 : FnD mk 23 f23 d23 where
  nm := rfl
  at_ := rfl
  dfl := rfl
  kwd := rfl
  sc := sc23
  bind := fun _ _ _ _ _ _ us hl => match us, hl with | [_, _], _ => rfl
  kb := fun ks perm h => by simp [mk] at h
  ok := ok23
  len := rfl
  le := by decide
theorem ok24 : okSs (ckOf mk f24 (defScope (top 35))) f24.body (defBody (top 35)) = true := by decide +kernel
theorem sc24 : FnScope f24.ns f24.ps (defScope (top 35)) := ⟨rfl, rfl, rfl, by decide +kernel, rfl, by decide +kernel, by decide +kernel⟩
theorem t24 : FnD mk 24 f24 d24 where
  nm := rfl
  at_ := rfl
  dfl := rfl
  kwd := rfl
  sc := sc24
  bind := fun _ _ _ _ _ _ us hl => match us, hl with | [_, _], _ => rfl
  kb := fun ks perm h => by simp [mk] at h
  ok := ok24
  len := rfl
  le := by decide
theorem ok25 : okSs (ckOf mk f25 (defScope (top 36))) f25.body (defBody (top 36)) = true := by decide +kernel
theorem sc25 : FnScope f25.ns f25.ps (defScope (top 36)) := ⟨rfl, rfl, rfl, by decide +kernel, rfl, by decide +kernel, by decide +kernel⟩
theorem t25 : FnD mk 25 f25 d25 where
  nm := rfl
  at_ := rfl
  dfl := rfl
  kwd := rfl
  sc := sc25
  bind := fun _ _ _ _ _ _ us hl => match us, hl with | [_, _, _], _ => rfl
  kb := fun ks perm h => by simp [mk] at h
  ok := ok25
  len := rfl
  le := by decide
theorem ok26 : okSs (ckOf mk f26 (defScope (top 37))) f26.body (defBody (top 37)) = true := by decide +kernel
theorem sc26 : FnScope f26.ns f26.ps (defScope (top 37)) := ⟨rfl, rfl, rfl, by decide +kernel, rfl, by decide +kernel, by decide +kernel⟩
theorem t26 : FnD mk 26 f26 d26 where
  nm := rfl
  at_ := rfl
  dfl := rfl
  kwd := rfl
  sc := sc26
  bind := fun _ _ _ _ _ _ us hl => match us, hl with | [_, _], _ => rfl
  kb := fun ks perm h => by simp [mk] at h
  ok := ok26
  len := rfl
  le := by decide
theorem ok27 : okSs (ckOf mk f27 (defScope (top 38))) f27.body (defBody (top 38)) = true := by decide +kernel
theorem sc27 : FnScope f27.ns f27.ps (defScope (top 38)) := ⟨rfl, rfl, rfl, by decide +kernel, rfl, by decide +kernel, by decide +kernel⟩
theorem t27 : FnD mk 27 f27 d27 where
  nm := rfl
  at_ := rfl
  dfl := rfl
  kwd := rfl
  sc := sc27
  bind := fun _ _ _ _ _ _ us hl => match us, hl with | [_, _], _ => rfl
  kb := fun ks perm h => by simp [mk] at h
  ok := ok27
  len := rfl
  le := by decide
theorem ok28 : okSs (ckOf mk f28 (defScope (top 39))) f28.body (defBody (top 39)) = true := by decide +kernel
theorem sc28 : FnScope f28.ns f28.ps (defScope (top 39)) := ⟨rfl, rfl, rfl, by decide +kernel, rfl, by decide +kernel, by decide +kernel⟩
theorem t28 : FnD mk 28 f28 d28 where
  nm := rfl
  at_ := rfl
  dfl := rfl
  kwd := rfl
  sc := sc28
  bind := fun _ _ _ _ _ _ us hl => match us, hl with | [_, _], _ => rfl
  kb := fun ks perm h => by simp [mk] at h
  ok := ok28
  len := rfl
  le := by decide
theorem ok29 : okSs (ckOf mk f29 (defScope (top 40))) f29.body (defBody (top 40)) = true := by decide +kernel
theorem sc29 : FnScope f29.ns f29.ps (defScope (top 40)) := ⟨rfl, rfl, rfl, by decide +kernel, rfl, by decide +kernel, by decide +kernel⟩
theorem t29 : FnD mk 29 f29 d29 where
  nm := rfl
  at_ := rfl
  dfl := rfl
  kwd := rfl
  sc := sc29
  bind := fun _ _ _ _ _ _ us hl => match us, hl with | [_], _ => rfl
  kb := fun ks perm h => by simp [mk] at h
  ok := ok29
  len := rfl
  le := by decide
theorem ok30 : okSs (ckOf mk f30 (defScope (top 41))) f30.body (defBody (top 41)) = true := by decide +kernel
theorem sc30 : FnScope f30.ns f30.ps (defScope (top 41)) := ⟨rfl, rfl, rfl, by decide +kernel, rfl, by decide +kernel, by decide +kernel⟩
theorem t30 : FnD mk 30 f30 d30 where
  nm := rfl
  at_ := rfl
  dfl := rfl
  kwd := rfl
  sc := sc30
  bind := fun _ _ _ _ _ _ us hl => match us, hl with | [_], _ => rfl
  kb := fun ks perm h => by simp [mk] at h
  ok := ok30
  len := rfl
  le := by decide
theorem ok31 : okSs (ckOf mk f31 (defScope (top 42))) f31.body (defBody (top 42)) = true := by decide +kernel
theorem sc31 : FnScope f31.ns f31.ps (defScope (top 42)) := ⟨rfl, rfl, rfl, by decide +kernel, rfl, by decide +kernel, by decide +kernel⟩
theorem t31 : FnD mk 31 f31 d31 where
  nm := rfl
  at_ := rfl
  dfl := rfl
  kwd := rfl
  sc := sc31
  bind := fun _ _ _ _ _ _ us hl => match us, hl with | [], _ => rfl
  kb := fun ks perm h => by simp [mk] at h
  ok := ok31
  len := rfl
  le := by decide
theorem ok32 : okSs (ckOf mk f32 (defScope (top 43))) f32.body (defBody (top 43)) = true := by decide +kernel
theorem sc32 : FnScope f32.ns f32.ps (defScope (top 43)) := ⟨rfl, rfl, rfl, by decide +kernel, rfl, by decide +kernel, by decide +kernel⟩
theorem t32 : FnD mk 32 f32 d32 where
  nm := rfl
  at_ := rfl
  dfl := rfl
  kwd := rfl
  sc := sc32
  bind := fun _ _ _ _ _ _ us hl => match us, hl with | [_], _ => rfl
  kb := fun ks perm h => by simp [mk] at h
  ok := ok32
  len := rfl
  le := by decide
theorem ok33 : okSs (ckOf mk f33 (defScope (top 44))) f33.body (defBody (top 44)) = true := by decide +kernel
theorem sc33 : FnScope f33.ns f33.ps (defScope (top 44)) := ⟨rfl, rfl, rfl, by decide +kernel, rfl, by decide +kernel, by decide +kernel⟩
theorem t33 : FnD mk 33 f33 d33 where
  nm := rfl
  at_ := rfl
  dfl := rfl
  kwd := rfl
  sc := sc33
  bind := fun _ _ _ _ _ _ us hl => match us, hl with | [_, _], _ => rfl
  kb := fun ks perm h => by simp [mk] at h
  ok := ok33
  len := rfl
  le := by decide
theorem ok34 : okSs (ckOf mk f34 (defScope (top 45))) f34.body (defBody (top 45)) = true := by decide +kernel
theorem sc34 : FnScope f34.ns f34.ps (defScope (top 45)) := ⟨rfl, rfl, rfl, by decide +kernel, rfl, by decide +kernel, by decide +kernel⟩
theorem t34 : FnD mk 34 f34 d34 where
  nm := rfl
  at_ := rfl
  dfl := rfl
  kwd := rfl
  sc := sc34
  bind := fun _ _ _ _ _ _ us hl => match us, hl with | [_, _, _], _ => rfl
  kb := fun ks perm h => by simp [mk] at h
  ok := ok34
  len := rfl
  le := by decide
theorem ok35 : okSs (ckOf mk f35 (defScope (top 46))) f35.body (defBody (top 46)) = true := by decide +kernel
theorem sc35 : FnScope f35.ns f35.ps (defScope (top 46)) := ⟨rfl, rfl, rfl, by decide +kernel, rfl, by decide +kernel, by decide +kernel⟩
theorem t35 : FnD mk 35 f35 d35 where
  nm := rfl
  at_ := rfl
  dfl := rfl
  kwd := rfl
  sc := sc35
  bind := fun _ _ _ _ _ _ us hl => match us, hl with | [_], _ => rfl
  kb := fun ks perm h => by simp [mk] at h
  ok := ok35
  len := rfl
  le := by decide
theorem ok36 : okSs (ckOf mk f36 (defScope (top 47))) f36.body (defBody (top 47)) = true := by decide +kernel
theorem sc36 : FnScope f36.ns f36.ps (defScope (top 47)) := ⟨rfl, rfl, rfl, by decide +kernel, rfl, by decide +kernel, by decide +kernel⟩
theorem t36 : FnD mk 36 f36 d36 where
  nm := rfl
  at_ := rfl
  dfl := rfl
  kwd := rfl
  sc := sc36
  bind := fun _ _ _ _ _ _ us hl => match us, hl with | [_], _ => rfl
  kb := fun ks perm h => by simp [mk] at h
  ok := ok36
  len := rfl
  le := by decide
theorem ok37 : okSs (ckOf mk f37 (defScope (top 48))) f37.body (defBody (top 48)) = true := by decide +kernel
theorem sc37 : FnScope f37.ns f37.ps (defScope (top 48)) := ⟨rfl, rfl, rfl, by decide +kernel, rfl, by decide +kernel, by decide +kernel⟩
theorem t37 : FnD mk 37 f37 d37 where
  nm := rfl
  at_ := rfl
  dfl := rfl
  kwd := rfl
  sc := sc37
  bind := fun _ _ _ _ _ _ us hl => match us, hl with | [_], _ => rfl
  kb := fun ks perm h => by simp [mk] at h
  ok := ok37
  len := rfl
  le := by decide
theorem ok38 : okSs (ckOf mk f38 (defScope (top 49))) f38.body (defBody (top 49)) = true := by decide +kernel
theorem sc38 : FnScope f38.ns f38.ps (defScope (top 49)) := ⟨rfl, rfl, rfl, by decide +kernel, rfl, by decide +kernel, by decide +kernel⟩
theorem t38 : FnD mk 38 f38 d38 where
  nm := rfl
  at_ := rfl
  dfl := rfl
  kwd := rfl
  sc := sc38
  bind := fun _ _ _ _ _ _ us hl => match us, hl with | [_], _ => rfl
  kb := fun ks perm h => by simp [mk] at h
  ok := ok38
  len := rfl
  le := by decide
theorem ok39 : okSs (ckOf mk f39 (defScope (top 50))) f39.body (defBody (top 50)) = true := by decide +kernel
theorem sc39 : FnScope f39.ns f39.ps (defScope (top 50)) := ⟨rfl, rfl, rfl, by decide +kernel, rfl, by decide +kernel, by decide +kernel⟩
theorem t39 : FnD mk 39 f39 d39 where
  nm := rfl
  at_ := rfl
  dfl := rfl
  kwd := rfl
  sc := sc39
  bind := fun _ _ _ _ _ _ us hl => match us, hl with | [_], _ => rfl
  kb := fun ks perm h => by simp [mk] at h
  ok := ok39
  len := rfl
  le := by decide
theorem tab : TabOk prg mk fa fn msl where
  names := rfl
  np := fun j np ks perm h => by simp [mk] at h; omega
  glo := fun j d h => by
    have : d ∈ prg.fns := List.mem_of_getElem? h
    have e : (prg.fns.map fun d => He.Fa.glo d.name) = fa.take 40 := rfl
    exact List.mem_of_mem_take (e ▸ List.mem_map.mpr ⟨d, this, rfl⟩)
  free := fun x h => by
    have e : (mk.fr.map He.Fa.free) = fa.drop 40 := rfl
    exact List.mem_of_mem_drop (e ▸ List.mem_map.mpr ⟨x, h, rfl⟩)
  ms := fun f hf hx => by
    cases f <;> first | (cases hf; done) | simp [msl, biName, biCallee] | (exfalso; revert hx; decide)
  at_ := fun j d h => by
    match j, h with
    | 0, h => cases h; exact ⟨d0, rfl, t0⟩
    | 1, h => cases h; exact ⟨d1, rfl, t1⟩
    | 2, h => cases h; exact ⟨d2, rfl, t2⟩
    | 3, h => cases h; exact ⟨d3, rfl, t3⟩
    | 4, h => cases h; exact ⟨d4, rfl, t4⟩
    | 5, h => cases h; exact ⟨d5, rfl, t5⟩
    | 6, h => cases h; exact ⟨d6, rfl, t6⟩
    | 7, h => cases h; exact ⟨d7, rfl, t7⟩
    | 8, h => cases h; exact ⟨d8, rfl, t8⟩
    | 9, h => cases h; exact ⟨d9, rfl, t9⟩
    | 10, h => cases h; exact ⟨d10, rfl, t10⟩
    | 11, h => cases h; exact ⟨d11, rfl, t11⟩
    | 12, h => cases h; exact ⟨d12, rfl, t12⟩
    | 13, h => cases h; exact ⟨d13, rfl, t13⟩
    | 14, h => cases h; exact ⟨d14, rfl, t14⟩
    | 15, h => cases h; exact ⟨d15, rfl, t15⟩
    | 16, h => cases h; exact ⟨d16, rfl, t16⟩
    | 17, h => cases h; exact ⟨d17, rfl, t17⟩
    | 18, h => cases h; exact ⟨d18, rfl, t18⟩
    | 19, h => cases h; exact ⟨d19, rfl, t19⟩
    | 20, h => cases h; exact ⟨d20, rfl, t20⟩
    | 21, h => cases h; exact ⟨d21, rfl, t21⟩
    | 22, h => cases h; exact ⟨d22, rfl, t22⟩
    | 23, h => cases h; exact ⟨d23, rfl, t23⟩
    | 24, h => cases h; exact ⟨d24, rfl, t24⟩
    | 25, h => cases h; exact ⟨d25, rfl, t25⟩
    | 26, h => cases h; exact ⟨d26, rfl, t26⟩
    | 27, h => cases h; exact ⟨d27, rfl, t27⟩
    | 28, h => cases h; exact ⟨d28, rfl, t28⟩
    | 29, h => cases h; exact ⟨d29, rfl, t29⟩
    | 30, h => cases h; exact ⟨d30, rfl, t30⟩
    | 31, h => cases h; exact ⟨d31, rfl, t31⟩
    | 32, h => cases h; exact ⟨d32, rfl, t32⟩
    | 33, h => cases h; exact ⟨d33, rfl, t33⟩
    | 34, h => cases h; exact ⟨d34, rfl, t34⟩
    | 35, h => cases h; exact ⟨d35, rfl, t35⟩
    | 36, h => cases h; exact ⟨d36, rfl, t36⟩
    | 37, h => cases h; exact ⟨d37, rfl, t37⟩
    | 38, h => cases h; exact ⟨d38, rfl, t38⟩
    | 39, h => cases h; exact ⟨d39, rfl, t39⟩
    | n + 40, h => cases h
abbrev R : PySem.W.OpenRow := PySem.W.OpenLaw.row PySem.Challenge.rw_ringsandsteps_k97_whole_looks
abbrev hk : PySem.W.Hook := hookM 4 fa fn msl
def ob (s : PySem.W.SharedT) : He.AlD × Bool := obsM 4 fa fn msl (HandSHeadRun.getT s)
theorem ob_eq (s : PySem.W.SharedT) : ob s = hk.obs s.abs := obsM_eq (HandSHeadRun.getT_eq s)
abbrev loose : List Str := (([("comb" : Str), ("gcd" : Str), ("partners" : Str), ("rows_from" : Str), ("all_rows" : Str), ("web_width" : Str), ("RingError" : Str), ("Unfit" : Str), ("near_lists" : Str), ("heads_behind" : Str), ("way_back" : Str), ("ring_at_tie" : Str), ("any_ring" : Str), ("least_ring" : Str), ("ball_points" : Str), ("ball_bar" : Str), ("farthest" : Str), ("commuting_widths" : Str), ("loop_widths" : Str), ("loops_bar" : Str), ("loops_most" : Str), ("loops_best" : Str), ("all_webs" : Str), ("webs_looked" : Str), ("loops_looked" : Str), ("_law_own_bag" : Str), ("_law_draw" : Str), ("_law_pick" : Str), ("_law_same" : Str), ("_law_far" : Str)] : List Str) ++ ([("_law_near" : Str), ("_law_ring" : Str), ("_law_width" : Str), ("_law_all_pairs" : Str), ("_law_webs" : Str), ("_law_five" : Str), ("_law_are_webs_right" : Str), ("_law_loop" : Str), ("_law_both" : Str), ("_law_least_bar" : Str), ("_law_least_ball" : Str), ("_law_loops" : Str), ("_law_are_loops_right" : Str)] : List Str))
theorem left (w : World) : HandSHeadRun.RunEqI R (PySem.W.view R.prog [0, 50]) hk ob 6000 loose w := by
  unfold HandSHeadRun.RunEqI
  kernel_rfl
end K97
end Eng
open PySem PySem.W PySem.Calls PyProof.Rows
theorem PySem.Challenge.cw_ringsandsteps_k97_whole_looks_holds : PySem.Challenge.rw_ringsandsteps_k97_whole_looks.Holds := by
  w_on; o_law
  refine HandSHeadRun.head_imp (r := OpenLaw.row PySem.Challenge.rw_ringsandsteps_k97_whole_looks) (q := view (OpenLaw.row PySem.Challenge.rw_ringsandsteps_k97_whole_looks).prog [0, 50]) (H := Eng.K97.hk) (ob := Eng.K97.ob) (M := 6000) (loose := Eng.K97.loose) (d := HandSHeadRun.topDef (OpenLaw.row PySem.Challenge.rw_ringsandsteps_k97_whole_looks).prog 50) (kwd := []) Eng.K97.ob_eq Eng.K97.left
    (by kernel_rfl) (by kernel_rfl) (by kernel_rfl) (by rfl) (by first | assumption | decide +kernel) (by decide +kernel) ⟨rfl, rfl, rfl, rfl, rfl, by decide +kernel⟩ ?hw ?hc
  case hw => w_witness2
  case hc =>
    refine L2.walk_ofE (l := PySem.Challenge.rw_ringsandsteps_k97_whole_looks) (n := 63) (k := 12) (x := "script") (CX := L2.CX0) rfl (by decide) (by kernel_rfl) ⟨rfl, by decide, by decide⟩ ?F (fun _ _ _ _ z => z)
    intro w mg fa h Y G hmg0
    obtain ⟨K, KX, c, cm⟩ := Y
    have hmg : mg ("law" : PySem.Str) = some (.ref fa) := by
      have e : (HandSHeadRun.topDef (OpenLaw.row PySem.Challenge.rw_ringsandsteps_k97_whole_looks).prog 50).name = ("law" : PySem.Str) := by kernel_rfl
      rw [← e]
      exact hmg0
    exact Eng.law_end Eng.K97.tab KX G c cm (J := 39) (k := 12) hmg rfl rfl rfl Eng.K97.plain


