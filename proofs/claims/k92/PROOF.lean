import PyProof.Rows.All
import Wide.All
import OpenK.AllK
import Wide.FinOn
import PySem.Syntax
import KE.KDictKeyed
import KE.LtData
import PyProof.ReprReads
import HandS.ForMost
import HandS.Flow
import HandS.Wide
import HandS.WideBits
import HandS.IsInst
import HandS.Defaults
import HandS.SortInts
import HandS.Style
import HandS.Dict
import HandS.Small
import HandS.TupLen
import HandS.Sort
import HandS.SortOrd
import KE.DataCmp
import KE.SortData
import KE.KDictSum
import PyProof.Rows.SortWalk
import HandS.TupAny
import HandS.Deep
import HandS.ReCall
import KE.KDictDisplayH
import HandS.DictComp
import HandS.Codes
import HandS.Head0
import HandS.Head1
import HandS.Head2
import HandS.HeadEnd
import HandS.HeadHook1
import HandS.HeadHook2
import PySem.Challenge.RW_beginningswaps_k92_whole_lists_of_cuts
set_option linter.all false
set_option autoImplicit false
/-! Z, part 1: an own small language (data, expressions, statements) and what a program of it does: a pure evaluator. -/
namespace Z
open PySem (Str Operator CmpOp)

/-- data -/
inductive D where
  | non | bl (b : Bool) | int (i : Int) | str (s : Str) | tup (xs : List D) | lst (xs : List D) | dic (kvs : List (D × D)) | scr (ns : List Int)
  deriving Inhabited

/-! ### equality, order -/
mutual
def D.eqv : D → D → Bool
  | .non, .non => true
  | .bl a, .bl b => a == b
  | .bl a, .int j => (if a then 1 else 0) == j
  | .int i, .bl b => i == (if b then 1 else 0)
  | .int i, .int j => i == j
  | .str x, .str y => x == y
  | .lst xs, .lst ys => D.eqvs xs ys
  | .tup xs, .tup ys => D.eqvs xs ys
  | _, _ => false
def D.eqvs : List D → List D → Bool
  | [], [] => true
  | x :: xs, y :: ys => D.eqv x y && D.eqvs xs ys
  | _, _ => false
end
/-! data that == may be asked of: no dict, no great text, not deep -/
mutual
def D.flat : Nat → D → Bool
  | _, .non => true
  | _, .bl _ => true
  | _, .int _ => true
  | _, .str s => s.cps.all (· < 0x110000)
  | 0, .lst _ => false
  | 0, .tup _ => false
  | n + 1, .lst xs => D.flats n xs
  | n + 1, .tup xs => D.flats n xs
  | _, .dic _ => false
  | _, .scr _ => false
def D.flats : Nat → List D → Bool
  | _, [] => true
  | n, x :: xs => D.flat n x && D.flats n xs
end
def D.fl (d : D) : Bool := D.flat 20 d
mutual
def D.lt : D → D → Option Bool
  | .int i, .int j => some (decide (i < j))
  | .str x, .str y => some (decide (x.cps.toList < y.cps.toList))
  | .lst xs, .lst ys => D.lts xs ys
  | .tup xs, .tup ys => D.lts xs ys
  | _, _ => none
def D.lts : List D → List D → Option Bool
  | [], [] => some false
  | [], _ :: _ => some true
  | _ :: _, [] => some false
  | x :: xs, y :: ys => if D.eqv x y then D.lts xs ys else D.lt x y
end
/-! ### shown -/
abbrev SB : Nat := 1000000000000
mutual
/-- data that may be shown, to a depth -/
def D.shw : Nat → D → Bool
  | _, .non => true
  | _, .bl _ => true
  | _, .int i => decide (i.natAbs < SB)
  | _, .str s => s.cps.all (· < 0x110000)
  | 0, .lst _ => false
  | 0, .tup _ => false
  | n + 1, .lst xs => D.shws n xs
  | n + 1, .tup xs => D.shws n xs
  | _, .dic _ => false
  | _, .scr _ => false
def D.shws : Nat → List D → Bool
  | _, [] => true
  | n, x :: xs => D.shw n x && D.shws n xs
end
mutual
/-- how much is shown, at most -/
def D.wt : D → Nat
  | .non => 0
  | .bl _ => 0
  | .int i => if i.natAbs < 16 then 4 else 40
  | .str s => s.cps.size
  | .lst xs => D.wts xs
  | .tup xs => D.wts xs
  | .dic _ => 0
  | .scr _ => 0
def D.wts : List D → Nat
  | [] => 0
  | x :: xs => D.wt x + 1 + D.wts xs
end
/-- what does not name an object -/
def D.imm : D → Bool
  | .non => true
  | .bl _ => true
  | .int _ => true
  | .str _ => true
  | _ => false

mutual
/-- no lists, no dicts in it -/
def D.bare : D → Bool
  | .non => true
  | .bl _ => true
  | .int _ => true
  | .str _ => true
  | .tup xs => D.bares xs
  | .lst _ => false
  | .dic _ => false
  | .scr _ => false
def D.bares : List D → Bool
  | [] => true
  | x :: xs => D.bare x && D.bares xs
end
/-! ### data as the library's; keys; order -/
mutual
def D.py : D → PySem.PyData
  | .non => .none
  | .bl b => .bool b
  | .int i => .int i
  | .str s => .str s
  | .tup xs => .tuple (D.pys xs)
  | .lst xs => .list (D.pys xs)
  | .dic _ => .none
  | .scr _ => .none
def D.pys : List D → List PySem.PyData
  | [] => []
  | x :: xs => D.py x :: D.pys xs
end
/-! keys that are tuples of ints, and of such tuples -/
mutual
def nk : D → Option PySem.NestedKey
  | .int i => some (.num i)
  | .tup ds => (nks ds).map .tup
  | _ => none
def nks : List D → Option (List PySem.NestedKey)
  | [] => some []
  | d :: ds => match nk d, nks ds with
    | some k, some l => some (k :: l)
    | _, _ => none
end
/-- such keys only, to depth 8 -/
def nkT : D → Option PySem.NestedKey
  | .tup ds => match nks ds with
    | some l => if PySem.NestedKey.depthAll l < 8 then some (.tup l) else none
    | none => none
  | _ => none
def keyed (kvs : List (D × D)) : Bool := kvs.all fun p => (nkT p.1).isSome
/-- shapes: data of one shape can be compared -/
inductive Sh where
  | int | str | sq (t : Sh) | ls (t : Sh) | pr (a b : Sh) | tr (a b c : Sh)
def reprS (d : D) : Str := d.py.shown
mutual
def D.isSh : D → Sh → Bool
  | .int _, .int => true
  | .str _, .str => true
  | .tup xs, .sq t => D.allSh xs t
  | .lst xs, .ls t => D.allSh xs t
  | .tup xs, .pr a b => D.prSh xs [a, b]
  | .tup xs, .tr a b c => D.prSh xs [a, b, c]
  | _, _ => false
def D.allSh : List D → Sh → Bool
  | [], _ => true
  | x :: xs, t => D.isSh x t && D.allSh xs t
def D.prSh : List D → List Sh → Bool
  | [], [] => true
  | x :: xs, t :: ts => D.isSh x t && D.prSh xs ts
  | _, _ => false
end
def SHS : List Sh := [.int, .str, .sq .int, .sq (.sq .int), .ls (.sq .int), .sq (.sq (.sq .int)), .pr .int (.sq .int), .tr .str .int (.sq (.sq (.sq .int))), .ls .int]
def D.solid : D → Bool
  | .tup [] => false
  | _ => true
def okS (xs : List D) : Bool := decide (xs.length ≤ 1) || SHS.any fun t => xs.all fun x => x.isSh t && x.solid
def alk (x y : D) : Bool := SHS.any fun t => x.isSh t && y.isSh t
def leD (x y : D) : Bool := !PySem.W.dataLt y.py x.py
def sortD (xs : List D) : List D := xs.mergeSort leD
/-! ### the state: a slot a name -/
inductive Sl where
  | no | val (d : D) | own (d : D) | bor (d : D)
  deriving Inhabited
/-- what stands in a slot's own object (bor: the caller's) -/
def Sl.cell : Sl → Option D
  | .own d => some d
  | .bor d => some d
  | _ => none
def Sl.to : Sl → D → Sl
  | .bor _, d => .bor d
  | _, d => .own d
abbrev Env := List Sl
/-- an expression's answer: data; a new object; the object of a slot -/
inductive RV where
  | val (d : D) | new (d : D) | at (i : Nat)
  deriving Inhabited
def rd (ρ : Env) : RV → Option D
  | .val d => some d
  | .new d => some d
  | .at i => match ρ[i]? with
    | some (.own d) => some d
    | some (.bor d) => some d
    | some (.val d) => some d
    | _ => none
/-- the answer is kept elsewhere: a slot that holds it may not be changed any more -/
def stl (ρ : Env) : RV → Option (D × Env)
  | .val d => some (d, ρ)
  | .new d => some (d, ρ)
  | .at i => match ρ[i]? with
    | some (.own d) => some (d, ρ.set i (.val d))
    | some (.val d) => some (d, ρ)
    | _ => none
def stls : Env → List RV → Option Env
  | ρ, [] => some ρ
  | ρ, r :: rs => match stl ρ r with
    | some (_, ρ1) => stls ρ1 rs
    | none => none
def rds (ρ : Env) : List RV → Option (List D)
  | [] => some []
  | r :: rs => match rd ρ r, rds ρ rs with
    | some d, some ds => some (d :: ds)
    | _, _ => none
def truth : D → Option Bool
  | .non => some false
  | .bl b => some b
  | .int i => some (i != 0)
  | .str s => if s.cps.size ≤ 1000 then some (s.cps.size != 0) else none
  | .tup xs => some (!xs.isEmpty)
  | .lst xs => some (!xs.isEmpty)
  | .dic _ => none
  | .scr ns => some (!ns.isEmpty)

/-! ### operators, by data -/
abbrev LL : Nat := 16000000
abbrev BB : Nat := 2 ^ 64
abbrev WW : Nat := 2 ^ 40000
abbrev DW : Nat := 2 ^ 8000
def bop : Operator → D → D → Option RV
  | .Add, .int i, .int j => some (.val (.int (i + j)))
  | .Add, .lst xs, .lst ys => if xs.length ≤ LL ∧ ys.length ≤ LL ∧ xs.length + ys.length ≤ LL then some (.new (.lst (xs ++ ys))) else none
  | .Add, .tup xs, .tup ys => if xs.length ≤ LL ∧ ys.length ≤ LL ∧ xs.length + ys.length ≤ LL then some (.val (.tup (xs ++ ys))) else none
  | .Sub, .int i, .int j => some (.val (.int (i - j)))
  | .Mult, .int i, .int j => if i.natAbs < BB ∨ j.natAbs < BB ∨ (i.natAbs < WW ∧ j.natAbs < WW) then some (.val (.int (i * j))) else none
  | .Mult, .lst xs, .int j => if j.natAbs ≤ LL ∧ xs.length * j.toNat ≤ LL then some (.new (.lst (List.replicate j.toNat xs).flatten)) else none
  | .Mod, .int i, .int j => if 0 < j then some (.val (.int (i.fmod j))) else none
  | .FloorDiv, .int i, .int j => if 0 < j ∧ j.natAbs < DW then some (.val (.int (i.fdiv j))) else none
  | .Pow, .int i, .int j => if 0 ≤ j ∧ j ≤ 100000 ∧ i.natAbs < BB then some (.val (.int (i ^ j.toNat))) else none
  | _, _, _ => none
def dget (kvs : List (D × D)) (k : D) : Option D := match kvs with
  | [] => none
  | (q, v) :: r => if D.eqv q k then some v else dget r k
def dput (kvs : List (D × D)) (k v : D) : List (D × D) :=
  if (kvs.any fun p => D.eqv p.1 k) = true then kvs.map (fun p => if D.eqv p.1 k = true then (p.1, v) else p) else kvs ++ [(k, v)]
def ddel (kvs : List (D × D)) (k : D) : List (D × D) := kvs.filter fun p => !D.eqv p.1 k
def mem (x : D) (ys : List D) : Bool := ys.any fun z => D.eqv z x
def cop : CmpOp → D → D → Option Bool
  | .Eq, .str x, .str y => some (x == y)
  | .NotEq, .str x, .str y => some (!(x == y))
  | .Eq, x, y => if x.fl && y.fl then some (D.eqv x y) else none
  | .NotEq, x, y => if x.fl && y.fl then some (!D.eqv x y) else none
  | .Lt, .int i, .int j => some (decide (i < j))
  | .Gt, .int i, .int j => some (decide (j < i))
  | .LtE, .int i, .int j => some (decide (i ≤ j))
  | .GtE, .int i, .int j => some (decide (j ≤ i))
  | .Lt, x, y => if alk x y then some (PySem.W.dataLt x.py y.py) else none
  | .Gt, x, y => if alk x y then some (PySem.W.dataLt y.py x.py) else none
  | .LtE, x, y => if alk x y then some (leD x y) else none
  | .GtE, x, y => if alk x y then some (leD y x) else none
  | .In, x, .dic kvs => if (nkT x).isSome && keyed kvs then some (dget kvs x).isSome else none
  | .NotIn, x, .dic kvs => if (nkT x).isSome && keyed kvs then some (!(dget kvs x).isSome) else none
  | .In, x, .lst ys => if x.fl && D.flats 20 ys then some (mem x ys) else none
  | .In, x, .tup ys => if x.imm && ys.all D.imm then some (mem x ys) else none
  | .NotIn, x, .lst ys => if x.fl && D.flats 20 ys then some (!mem x ys) else none
  | .NotIn, x, .tup ys => if x.imm && ys.all D.imm then some (!mem x ys) else none
  | _, _, _ => none
/-- a place in a sequence of n, by an index of any sign -/
def place (n : Nat) (i : Int) : Option Nat := if 0 ≤ i then (if i < n then some i.toNat else none) else if -(n : Int) ≤ i then some (i + n).toNat else none
def sub : D → D → Option D
  | .lst xs, .int i => match place xs.length i with
    | some j => xs[j]?
    | none => none
  | .tup xs, .int i => match place xs.length i with
    | some j => xs[j]?
    | none => none
  | .scr ns, .int i => match place ns.length i with
    | some j => ns[j]?.map .int
    | none => none
  | .dic kvs, .int i => dget kvs (.int i)
  | .dic kvs, .str s => dget kvs (.str s)
  | .dic kvs, .tup ks => if (nkT (.tup ks)).isSome && keyed kvs then dget kvs (.tup ks) else none
  | _, _ => none
/-- a slice's bound, brought into 0 .. n -/
def bound (n d : Nat) : Option Int → Nat
  | none => d
  | some i => if i < 0 then (i + (n : Int)).toNat else min i.toNat n
def cut {α : Type} (xs : List α) (lo hi : Option Int) : List α := (xs.drop (bound xs.length 0 lo)).take (bound xs.length xs.length hi - bound xs.length 0 lo)

/-! ### the language -/
inductive Bf where
  | abs | all | any | dict | divmod | int | len | list | max | min | repr | set | sorted | sum | tuple
  deriving DecidableEq
inductive Mt where
  | get | index | count
  deriving DecidableEq
inductive Mm where
  | append | extend | pop | update | remove
  deriving DecidableEq
inductive Ty where
  | int | bool | str | list | tuple | dict
  deriving DecidableEq
mutual
inductive Ex where
  | cst (d : D)
  | gl (x : Str) (d : D)
  | var (i : Nat)
  | lst (es : Exs)
  | tup (es : Exs)
  | dct (ks vs : Exs)
  | dctN (k v : Ex)
  | bin (op : Operator) (a b : Ex)
  | neg (a : Ex)
  | nt (a : Ex)
  | andv (a b : Ex)
  | orv (a b : Ex)
  | cmp (op : CmpOp) (a b : Ex)
  | cmp2 (op op2 : CmpOp) (a b c : Ex)
  | isN (a : Ex)
  | ntN (a : Ex)
  | ife (c : Tx) (a b : Ex)
  | idx (a i : Ex)
  | slc (a : Ex) (lo hi : Ox)
  | rev (a : Ex)
  | call (f : Str) (es : Exs) (g : List (Nat ⊕ D))
  | call1 (f : Str) (e : Ex)
  | bf (b : Bf) (es : Exs)
  | isin (e : Ex) (ts : List Ty)
  | mt (m : Mt) (e : Ex) (es : Exs)
  | mm (m : Mm) (i : Nat) (es : Exs)
  | comp (e : Ex) (g : Tg) (it : It) (c : Txs) (own : List Nat)
  | dcomp (k v : Ex) (g : Tg) (it : It) (c : Txs) (own : List Nat)
inductive Exs where
  | nil | cons (e : Ex) (es : Exs)
inductive Ox where
  | no | one (e : Ex)
inductive Tx where
  | val (e : Ex) | and (a b : Tx) | or (a b : Tx) | not (a : Tx)
inductive Txs where
  | yes | one (t : Tx)
inductive It where
  | seq (e : Ex) | rng1 (a : Ex) | rng2 (a b : Ex) | rng3 (a b c : Ex) | enum (e : Ex) | zip (a b : Ex) | items (e : Ex)
inductive Tg where
  | nm (i : Nat) | tup (gs : Tgs) | sub (i : Nat) (k : Ex)
inductive Tgs where
  | nil | cons (g : Tg) (gs : Tgs)
end
mutual
inductive Sx where
  | set (i : Nat) (e : Ex)
  | asg (g : Tg) (e : Ex)
  | par (is : List Nat) (es : Exs)
  | ex (e : Ex)
  | ret (e : Ex)
  | retN
  | ife (c : Tx) (a b : Sxs)
  | whl (c : Tx) (b : Sxs)
  | for_ (g : Tg) (it : It) (b : Sxs)
  | brk | cnt | pass
  | never
  | spoil (i : Nat) (f : Str) (es : Exs) (g : List (Nat ⊕ D)) (ps : List (List Nat))
inductive Sxs where
  | nil | cons (s : Sx) (ss : Sxs)
end

/-! ### built-ins, by data -/
def blsOf : List D → Option (List Bool)
  | [] => some []
  | .bl b :: r => (blsOf r).map (b :: ·)
  | _ => none
def intsOf : List D → Option (List Int)
  | [] => some []
  | .int i :: r => (intsOf r).map (i :: ·)
  | _ => none
def insI (x : Int) : List Int → List Int
  | [] => [x]
  | y :: r => if x ≤ y then x :: y :: r else y :: insI x r
def sortI (l : List Int) : List Int := l.foldr insI []
def mxI : Int → List Int → Int
  | i, [] => i
  | i, j :: l => mxI (if j > i then j else i) l
def mnI : Int → List Int → Int
  | i, [] => i
  | i, j :: l => mnI (if j < i then j else i) l
/-- pairs, the keys tuples -/
def pairsOf : List D → Option (List (D × D))
  | [] => some []
  | .tup [k, v] :: r => if (nkT k).isSome then (pairsOf r).map ((k, v) :: ·) else none
  | _ => none
def bfv : Bf → List D → Option RV
  | .abs, [.int i] => some (.val (.int i.natAbs))
  | .int, [.int i] => some (.val (.int i))
  | .int, [.bl b] => some (.val (.int (if b then 1 else 0)))
  | .len, [.lst xs] => some (.val (.int xs.length))
  | .len, [.tup xs] => some (.val (.int xs.length))
  | .len, [.scr ns] => some (.val (.int ns.length))
  | .len, [.dic kvs] => some (.val (.int kvs.length))
  | .all, [.lst xs] => (blsOf xs).map fun l => .val (.bl (l.all id))
  | .any, [.lst xs] => (blsOf xs).map fun l => .val (.bl (l.any id))
  | .max, [.int i, .int j] => some (.val (.int (if j > i then j else i)))
  | .min, [.int i, .int j] => some (.val (.int (if j < i then j else i)))
  | .divmod, [.int i, .int j] => if 0 < j ∧ j.natAbs < DW then some (.val (.tup [.int (i.fdiv j), .int (i.fmod j)])) else none
  | .repr, [d] => if d.shw 20 && decide (d.wt ≤ 1048576) then some (.val (.str (reprS d))) else none
  | .sum, [.lst xs] => (intsOf xs).map fun l => .val (.int l.sum)
  | .list, [.lst xs] => some (.new (.lst xs))
  | .list, [.tup xs] => some (.new (.lst xs))
  | .tuple, [.lst xs] => some (.val (.tup xs))
  | .tuple, [.tup xs] => some (.val (.tup xs))
  | .sorted, [.lst xs] => match intsOf xs with
    | some l => some (.new (.lst ((sortI l).map .int)))
    | none => if okS xs then some (.new (.lst (sortD xs))) else none
  | .sorted, [.dic kvs] => if keyed kvs && !kvs.isEmpty && okS (kvs.map (·.1)) then some (.new (.lst (sortD (kvs.map (·.1))))) else none
  | .dict, [.lst xs] => (pairsOf xs).map fun l => .new (.dic (l.foldl (fun acc p => dput acc p.1 p.2) []))
  | .max, [.lst xs] => match intsOf xs with
    | some (i :: l) => some (.val (.int (mxI i l)))
    | _ => none
  | .min, [.lst xs] => match intsOf xs with
    | some (i :: l) => some (.val (.int (mnI i l)))
    | _ => none
  | _, _ => none
def isTy : D → Ty → Bool
  | .int _, .int => true
  | .bl _, .int => true
  | .bl _, .bool => true
  | .str _, .str => true
  | .lst _, .list => true
  | .tup _, .tuple => true
  | .dic _, .dict => true
  | _, _ => false
/-- the first place of an equal one -/
def idxD (x : D) : List D → Nat
  | [] => 0
  | y :: ys => if D.eqv y x then 0 else idxD x ys + 1
def mtv : Mt → D → List D → Option D
  | .index, .lst ys, [x] => if x.fl && D.flats 20 ys && mem x ys then some (.int (idxD x ys)) else none
  | .get, .dic kvs, [x] => if (nkT x).isSome && keyed kvs then some ((dget kvs x).getD .non) else none
  | _, _, _ => none
def mtOk : Mt → D → Bool
  | .index, .lst _ => true
  | .get, .dic kvs => keyed kvs
  | _, _ => false
/-- a changing method: the object behind it, what it hands back -/
def mmv : Mm → D → List D → Option (D × D)
  | .append, .lst xs, [d] => if xs.length < LL then some (.lst (xs ++ [d]), .non) else none
  | .pop, .lst xs, [] => match xs.getLast? with
    | some d => some (.lst xs.dropLast, d)
    | none => none
  | .extend, .lst xs, [.lst ys] => if xs.length ≤ LL ∧ ys.length ≤ LL ∧ xs.length + ys.length ≤ LL then some (.lst (xs ++ ys), .non) else none
  | _, _, _ => none
/-- a path to a list in it -/
def skD : D → List Nat → Bool
  | .lst ds, [] => decide (ds.length < LL)
  | .lst ds, i :: p => decide (ds.length < LL) && (match ds[i]? with
    | some d => skD d p
    | none => false)
  | .tup ds, i :: p => match ds[i]? with
    | some d => skD d p
    | none => false
  | _, _ => false
/-- o[k] = v -/
def putv : D → D → D → Option D
  | .lst xs, .int i, v => (place xs.length i).map fun j => .lst (xs.set j v)
  | .dic kvs, .int i, v => if kvs.length < LL ∧ (kvs.isEmpty || !keyed kvs) = true then some (.dic (dput kvs (.int i) v)) else none
  | .dic kvs, .str i, v => if kvs.length < LL ∧ (kvs.isEmpty || !keyed kvs) = true then some (.dic (dput kvs (.str i) v)) else none
  | .dic kvs, .tup i, v => if kvs.length < LL ∧ ((nkT (.tup i)).isSome && keyed kvs) = true then some (.dic (dput kvs (.tup i) v)) else none
  | _, _, _ => none
def rngN (lo : Int) (n : Nat) : List D := (List.range n).map fun (k : Nat) => .int (lo + (k : Int))

/-! ### the evaluator -/
structure Cf where
  call : Str → List D → Option (RV × Option D)
  W : Nat
def immR : RV → Bool
  | .val d => d.imm
  | _ => false
/-- an answer that holds no object of others -/
def lite : RV → Bool
  | .val d => d.imm
  | .new (.lst ds) => ds.all D.imm
  | _ => false
/-- the arguments in the parameters' order -/
def arrange (rs : List RV) : List (Nat ⊕ D) → Option (List RV)
  | [] => some []
  | .inl j :: g => match rs[j]?, arrange rs g with
    | some r, some l => some (r :: l)
    | _, _ => none
  | .inr d :: g => match arrange rs g with
    | some l => some (.val d :: l)
    | none => none
/-- a call's end: a first parameter that was changed is written back, lists that the answer may hold are kept as they are -/
def after (ρ : Env) (rs : List RV) (r : RV) (m : Option D) : Option (RV × Env) := match m with
  | some (.lst ds) => if ds.all D.imm then (match rs with
    | .at i :: rest => (match stls ρ rest with
      | some ρ2 => (match ρ2[i]? with
        | some s => if s.cell.isSome then some (r, (if lite r then ρ else ρ2).set i (s.to (.lst ds))) else none
        | none => none)
      | none => none)
    | _ => none) else none
  | some _ => none
  | none => match stls ρ rs with
    | some ρ2 => some (r, if lite r then ρ else ρ2)
    | none => none
def callWith (C : Cf) (f : Str) (g : List (Nat ⊕ D)) (rs : List RV) (ρ : Env) : Option (RV × Env) := match arrange rs g with
  | some ps => (match rds ρ ps with
    | some ds => (match C.call f ds with
      | some (r, m) => after ρ ps r m
      | none => none)
    | none => none)
  | none => none
def restore (ρ0 : Env) : Env → List Nat → Env
  | ρ, [] => ρ
  | ρ, i :: r => (restore ρ0 ρ r).set i ((ρ0[i]?).getD .no)
def wipeE : Env → List Nat → Env
  | ρ, [] => ρ
  | ρ, i :: r => (wipeE ρ r).set i .no
def noCell (ρ : Env) (is : List Nat) : Bool := is.all fun i => match ρ[i]? with
  | some (.own _) => false
  | some (.bor _) => false
  | _ => true
/-- what a name stands for is kept -/
def keep (ρ : Env) (i : Nat) (r : RV) : Option Env := match r with
  | .val d => some (ρ.set i (.val d))
  | .new d => some (ρ.set i (.own d))
  | .at j => match stl ρ r with
    | some (d, ρ1) => some (ρ1.set i (.val d))
    | none => none
inductive Out where
  | nxt | brk | cnt | ret (r : RV)
  deriving Inhabited
/-- the items that are walked -/
def items (ρ : Env) (r : RV) : Option (List D) := match rd ρ r with
  | some (.lst xs) => some xs
  | some (.tup xs) => some xs
  | _ => none
/-- a dict that is walked may not be changed any more -/
def keysOf (ρ : Env) (r : RV) : Option (List D × List RV × Env) := match stl ρ r with
  | some (.dic kvs, ρ1) => if keyed kvs && !kvs.isEmpty then some (kvs.map (·.1), [], ρ1) else none
  | _ => none
def enumD : Nat → List D → List D
  | _, [] => []
  | n, d :: r => .tup [.int n, d] :: enumD (n + 1) r
def zipD : List D → List D → List D
  | x :: xs, y :: ys => .tup [x, y] :: zipD xs ys
  | _, _ => []
def dngN (lo : Int) (n : Nat) : List D := (List.range n).map fun (k : Nat) => .int (lo - (k : Int))
def whlF (t : Env → Option (Bool × Env)) (b : Env → Option (Out × Env)) : Nat → Env → Option (Out × Env)
  | 0, _ => none
  | n + 1, ρ => match t ρ with
    | none => none
    | some (false, ρ1) => some (.nxt, ρ1)
    | some (true, ρ1) => match b ρ1 with
      | none => none
      | some (.nxt, ρ2) => whlF t b n ρ2
      | some (.cnt, ρ2) => whlF t b n ρ2
      | some (.brk, ρ2) => some (.nxt, ρ2)
      | some (.ret r, ρ2) => some (.ret r, ρ2)
/-- g: an item is bound -/
def forF (g : D → Env → Option Env) (b : Env → Option (Out × Env)) : List D → Env → Option (Out × Env)
  | [], ρ => some (.nxt, ρ)
  | d :: r, ρ => match g d ρ with
    | none => none
    | some ρ1 => match b ρ1 with
      | none => none
      | some (.nxt, ρ2) => forF g b r ρ2
      | some (.cnt, ρ2) => forF g b r ρ2
      | some (.brk, ρ2) => some (.nxt, ρ2)
      | some (.ret r, ρ2) => some (.ret r, ρ2)
/-- a comprehension: own slots forgotten at each turn -/
def compF (ck : Env → Bool) (own : List Nat) (g : D → Env → Option Env) (t : Env → Option (Bool × Env)) (e : Env → Option (RV × Env)) : List D → List D → Env → Option (List D × Env)
  | [], acc, ρ => some (acc, ρ)
  | d :: r, acc, ρ => match g d (wipeE ρ own) with
    | none => none
    | some ρ1 => match t ρ1 with
      | none => none
      | some (false, ρ2) => if ck ρ2 then compF ck own g t e r acc ρ2 else none
      | some (true, ρ2) => match e ρ2 with
        | none => none
        | some (rv, ρ3) => match stl ρ3 rv with
          | none => none
          | some (x, ρ4) => if ck ρ4 then compF ck own g t e r (acc ++ [x]) ρ4 else none
/-- a dict's: keys tuples, values that name no object -/
def dcompF (ck : Env → Bool) (own : List Nat) (g : D → Env → Option Env) (t : Env → Option (Bool × Env)) (k v : Env → Option (RV × Env)) : List D → List (D × D) → Env → Option (List (D × D) × Env)
  | [], acc, ρ => some (acc, ρ)
  | d :: r, acc, ρ => match g d (wipeE ρ own) with
    | none => none
    | some ρ1 => match t ρ1 with
      | none => none
      | some (false, ρ2) => if ck ρ2 then dcompF ck own g t k v r acc ρ2 else none
      | some (true, ρ2) => match k ρ2 with
        | some (.val kd, ρ3) => (match v ρ3 with
          | some (.val vd, ρ4) => if (nkT kd).isSome && vd.imm && ck ρ4 then dcompF ck own g t k v r (dput acc kd vd) ρ4 else none
          | _ => none)
        | _ => none
mutual
def D.same : D → D → Bool
  | .non, .non => true
  | .bl a, .bl b => a == b
  | .int i, .int j => i == j
  | .str x, .str y => x == y
  | .lst xs, .lst ys => D.sames xs ys
  | .tup xs, .tup ys => D.sames xs ys
  | .dic _, .dic _ => false
  | _, _ => false
def D.sames : List D → List D → Bool
  | [], [] => true
  | x :: xs, y :: ys => D.same x y && D.sames xs ys
  | _, _ => false
end
/-- the slots that hold what is walked -/
def ckOf (ρ0 : Env) (rs : List RV) (ρ : Env) : Bool := rs.all fun r => match r with
  | .at i => (match ρ0[i]?, ρ[i]? with
    | some (.own d), some (.own e) => D.same d e
    | some (.bor d), some (.bor e) => D.same d e
    | some (.val _), _ => true
    | _, _ => false)
  | _ => true

mutual
def ev (C : Cf) : Ex → Env → Option (RV × Env)
  | .cst d, ρ => some (.val d, ρ)
  | .gl _ d, ρ => some (.val d, ρ)
  | .var i, ρ => match ρ[i]? with
    | some (.val d) => some (.val d, ρ)
    | some (.own _) => some (.at i, ρ)
    | some (.bor _) => some (.at i, ρ)
    | _ => none
  | .lst es, ρ => match evs C es ρ with
    | some (rs, ρ1) => (match rds ρ1 rs, stls ρ1 rs with
      | some ds, some ρ2 => some (.new (.lst ds), ρ2)
      | _, _ => none)
    | none => none
  | .tup es, ρ => match evs C es ρ with
    | some (rs, ρ1) => (match rds ρ1 rs, stls ρ1 rs with
      | some ds, some ρ2 => some (.val (.tup ds), ρ2)
      | _, _ => none)
    | none => none
  | .dct ks vs, ρ => match evp C ks vs ρ with
    | some (kvs, ρ1) => if kvs.length ≤ 15 then some (.new (.dic (kvs.foldl (fun acc kv => dput acc kv.1 kv.2) [])), ρ1) else none
    | none => none
  | .dctN k v, ρ => match ev C k ρ with
    | some (r, ρ1) => (match ev C v ρ1 with
      | some (q, ρ2) => (match stl ρ2 r, stl ρ2 q with
        | some (kd, _), some (vd, ρ3) => if (nkT kd).isSome && immR q then some (.new (.dic [(kd, vd)]), ρ3) else none
        | _, _ => none)
      | none => none)
    | none => none
  | .bin op a b, ρ => match ev C a ρ with
    | some (r, ρ1) => (match ev C b ρ1 with
      | some (q, ρ2) => (match rd ρ2 r, rd ρ2 q with
        | some x, some y => (bop op x y).map fun z => (z, ρ2)
        | _, _ => none)
      | none => none)
    | none => none
  | .neg a, ρ => match ev C a ρ with
    | some (.val (.int i), ρ1) => some (.val (.int (-i)), ρ1)
    | _ => none
  | .nt a, ρ => match ev C a ρ with
    | some (r, ρ1) => (match rd ρ1 r with
      | some d => (truth d).map fun b => (.val (.bl (!b)), ρ1)
      | none => none)
    | none => none
  | .andv a b, ρ => match ev C a ρ with
    | some (.val (.bl true), ρ1) => ev C b ρ1
    | some (.val (.bl false), ρ1) => some (.val (.bl false), ρ1)
    | _ => none
  | .orv a b, ρ => match ev C a ρ with
    | some (.val (.bl false), ρ1) => ev C b ρ1
    | some (.val (.bl true), ρ1) => some (.val (.bl true), ρ1)
    | _ => none
  | .cmp op a b, ρ => match ev C a ρ with
    | some (r, ρ1) => (match ev C b ρ1 with
      | some (q, ρ2) => (match rd ρ2 r, rd ρ2 q with
        | some x, some y => (cop op x y).map fun z => (.val (.bl z), ρ2)
        | _, _ => none)
      | none => none)
    | none => none
  | .cmp2 op op2 a b c, ρ => match ev C a ρ with
    | some (r, ρ1) => (match ev C b ρ1 with
      | some (q, ρ2) => (match rd ρ2 r, rd ρ2 q with
        | some x, some y => (match cop op x y with
          | some true => (match ev C c ρ2 with
            | some (u, ρ3) => (match rd ρ3 q, rd ρ3 u with
              | some y', some z => (cop op2 y' z).map fun w => (.val (.bl w), ρ3)
              | _, _ => none)
            | none => none)
          | some false => some (.val (.bl false), ρ2)
          | none => none)
        | _, _ => none)
      | none => none)
    | none => none
  | .isN a, ρ => match ev C a ρ with
    | some (r, ρ1) => (match rd ρ1 r with
      | some .non => some (.val (.bl true), ρ1)
      | some _ => some (.val (.bl false), ρ1)
      | none => none)
    | none => none
  | .ntN a, ρ => match ev C a ρ with
    | some (r, ρ1) => (match rd ρ1 r with
      | some .non => some (.val (.bl false), ρ1)
      | some _ => some (.val (.bl true), ρ1)
      | none => none)
    | none => none
  | .ife c a b, ρ => match tv C c ρ with
    | some (true, ρ1) => ev C a ρ1
    | some (false, ρ1) => ev C b ρ1
    | none => none
  | .idx a i, ρ => match ev C a ρ with
    | some (r, ρ1) => (match ev C i ρ1 with
      | some (q, ρ2) => (match rd ρ2 r, rd ρ2 q with
        | some x, some y => (sub x y).map fun z => (.val z, ρ2)
        | _, _ => none)
      | none => none)
    | none => none
  | .slc a lo hi, ρ => match ev C a ρ with
    | some (r, ρ1) => (match evo C lo ρ1 with
      | some (l, ρ2) => (match evo C hi ρ2 with
        | some (u, ρ3) => (match rd ρ3 r with
          | some (.lst xs) => some (.new (.lst (cut xs l u)), ρ3)
          | some (.tup xs) => some (.val (.tup (cut xs l u)), ρ3)
          | _ => none)
        | none => none)
      | none => none)
    | none => none
  | .rev a, ρ => match ev C a ρ with
    | some (r, ρ1) => (match rd ρ1 r with
      | some (.lst xs) => some (.new (.lst xs.reverse), ρ1)
      | _ => none)
    | none => none
  | .call f es g, ρ => match evs C es ρ with
    | some (rs, ρ1) => callWith C f g rs ρ1
    | none => none
  | .call1 f e, ρ => match ev C e ρ with
    | some (.new d, ρ1) => (match C.call f [d] with
      | some (r, some _) => some (r, ρ1)
      | _ => none)
    | _ => none
  | .bf b es, ρ => match evs C es ρ with
    | some (rs, ρ1) => (match rds ρ1 rs with
      | some ds => (bfv b ds).map fun z => (z, ρ1)
      | none => none)
    | none => none
  | .isin e ts, ρ => match ev C e ρ with
    | some (r, ρ1) => (match rd ρ1 r with
      | some (.scr _) => none
      | some (.dic _) => none
      | some d => some (.val (.bl (ts.any (isTy d))), ρ1)
      | none => none)
    | none => none
  | .mt m e es, ρ => match ev C e ρ with
    | some (r, ρ1) => (match rd ρ1 r with
      | some d0 => if mtOk m d0 then (match evs C es ρ1 with
        | some (rs, ρ2) => (match rd ρ2 r, rds ρ2 rs with
          | some d, some ds => (mtv m d ds).map fun z => (.val z, ρ2)
          | _, _ => none)
        | none => none) else none
      | none => none)
    | none => none
  | .mm m i es, ρ => match ρ[i]? with
    | some s0 => (match s0.cell with
      | some (.lst _) => (match evs C es ρ with
        | some (rs, ρ1) => (match rds ρ1 rs, stls ρ1 rs with
          | some ds, some ρ2 => (match ρ2[i]? with
            | some s => (match s.cell with
              | some d => (match mmv m d ds with
                | some (d', r) => some (.val r, ρ2.set i (s.to d'))
                | none => none)
              | none => none)
            | none => none)
          | _, _ => none)
        | none => none)
      | _ => none)
    | none => none
  | .comp e g it c own, ρ => match itv C it ρ with
    | some (ds, rs, ρ1) => if noCell ρ1 own && decide (ds.length ≤ LL) then (match compF (ckOf ρ1 rs) own (gv C g) (tvs C c) (ev C e) ds [] ρ1 with
      | some (acc, ρ2) => some (.new (.lst acc), restore ρ1 ρ2 own)
      | none => none) else none
    | none => none
  | .dcomp k v g it c own, ρ => match itv C it ρ with
    | some (ds, rs, ρ1) => if noCell ρ1 own && decide (ds.length ≤ LL) then (match dcompF (ckOf ρ1 rs) own (gv C g) (tvs C c) (ev C k) (ev C v) ds [] ρ1 with
      | some (acc, ρ2) => some (.new (.dic acc), restore ρ1 ρ2 own)
      | none => none) else none
    | none => none
/-- keys (written ints or texts) and values -/
def evp (C : Cf) : Exs → Exs → Env → Option (List (D × D) × Env)
  | .nil, .nil, ρ => some ([], ρ)
  | .cons (.cst k) ks, .cons e es, ρ => match ev C e ρ with
    | some (r, ρ1) => (match stl ρ1 r with
      | some (d, ρ2) => (match evp C ks es ρ2 with
        | some (l, ρ3) => (match k with
          | .int i => some ((.int i, d) :: l, ρ3)
          | .str s => some ((.str s, d) :: l, ρ3)
          | _ => none)
        | none => none)
      | none => none)
    | none => none
  | _, _, _ => none
def evo (C : Cf) : Ox → Env → Option (Option Int × Env)
  | .no, ρ => some (none, ρ)
  | .one e, ρ => match ev C e ρ with
    | some (.val (.int i), ρ1) => some (some i, ρ1)
    | _ => none
def evs (C : Cf) : Exs → Env → Option (List RV × Env)
  | .nil, ρ => some ([], ρ)
  | .cons e es, ρ => match ev C e ρ with
    | some (r, ρ1) => (match evs C es ρ1 with
      | some (rs, ρ2) => some (r :: rs, ρ2)
      | none => none)
    | none => none
def tv (C : Cf) : Tx → Env → Option (Bool × Env)
  | .val e, ρ => match ev C e ρ with
    | some (r, ρ1) => (match rd ρ1 r with
      | some d => (truth d).map fun b => (b, ρ1)
      | none => none)
    | none => none
  | .and a b, ρ => match tv C a ρ with
    | some (true, ρ1) => tv C b ρ1
    | some (false, ρ1) => some (false, ρ1)
    | none => none
  | .or a b, ρ => match tv C a ρ with
    | some (true, ρ1) => some (true, ρ1)
    | some (false, ρ1) => tv C b ρ1
    | none => none
  | .not a, ρ => match tv C a ρ with
    | some (b, ρ1) => some (!b, ρ1)
    | none => none
def tvs (C : Cf) : Txs → Env → Option (Bool × Env)
  | .yes, ρ => some (true, ρ)
  | .one t, ρ => tv C t ρ
/-- the items, the objects that are walked -/
def itv (C : Cf) : It → Env → Option (List D × List RV × Env)
  | .seq e, ρ => match ev C e ρ with
    | some (r, ρ1) => (match items ρ1 r with
      | some ds => some (ds, [r], ρ1)
      | none => keysOf ρ1 r)
    | none => none
  | .rng1 a, ρ => match ev C a ρ with
    | some (.val (.int n), ρ1) => if n.natAbs ≤ LL then some (rngN 0 n.toNat, [], ρ1) else none
    | _ => none
  | .rng2 a b, ρ => match ev C a ρ with
    | some (.val (.int lo), ρ1) => (match ev C b ρ1 with
      | some (.val (.int hi), ρ2) => if lo.natAbs ≤ LL ∧ hi.natAbs ≤ LL then some (rngN lo (hi - lo).toNat, [], ρ2) else none
      | _ => none)
    | _ => none
  | .enum e, ρ => match ev C e ρ with
    | some (r, ρ1) => (match rd ρ1 r with
      | some (.lst xs) => some (enumD 0 xs, [r], ρ1)
      | _ => none)
    | none => none
  | .rng3 a b c, ρ => match ev C a ρ with
    | some (.val (.int lo), ρ1) => (match ev C b ρ1 with
      | some (.val (.int hi), ρ2) => (match ev C c ρ2 with
        | some (.val (.int st), ρ3) => if lo.natAbs ≤ LL ∧ hi.natAbs ≤ LL ∧ st = -1 then some (dngN lo (lo - hi).toNat, [], ρ3) else none
        | _ => none)
      | _ => none)
    | _ => none
  | .zip a b, ρ => match ev C a ρ with
    | some (r, ρ1) => (match ev C b ρ1 with
      | some (q, ρ2) => (match rd ρ2 r, rd ρ2 q with
        | some (.lst xs), some (.lst ys) => some (zipD xs ys, [r, q], ρ2)
        | _, _ => none)
      | none => none)
    | none => none
  | _, _ => none
/-- a target -/
def gv (C : Cf) : Tg → D → Env → Option Env
  | .nm i, d, ρ => some (ρ.set i (.val d))
  | .tup gs, .tup ds, ρ => gvs C gs ds ρ
  | .tup _, _, _ => none
  | .sub i k, d, ρ => match ρ[i]? with
    | some s0 => (match s0.cell with
      | some _ => (match ev C k ρ with
        | some (.val kd, ρ1) => (match ρ1[i]? with
          | some s => (match s.cell with
            | some o => (putv o kd d).map fun o' => ρ1.set i (s.to o')
            | none => none)
          | none => none)
        | _ => none)
      | none => none)
    | none => none
def gvs (C : Cf) : Tgs → List D → Env → Option Env
  | .nil, [], ρ => some ρ
  | .cons g gs, d :: ds, ρ => match gv C g d ρ with
    | some ρ1 => gvs C gs ds ρ1
    | none => none
  | _, _, _ => none
end
def setAll : Env → List Nat → List RV → Option Env
  | ρ, [], [] => some ρ
  | ρ, i :: is, r :: rs => match keep ρ i r with
    | some ρ1 => setAll ρ1 is rs
    | none => none
  | _, _, _ => none
def noAt (rs : List RV) : Bool := rs.all fun r => match r with
  | .at _ => false
  | _ => true
mutual
def sv (C : Cf) : Sx → Env → Option (Out × Env)
  | .set i e, ρ => match ev C e ρ with
    | some (r, ρ1) => (keep ρ1 i r).map fun ρ2 => (.nxt, ρ2)
    | none => none
  | .asg g e, ρ => match ev C e ρ with
    | some (r, ρ1) => (match stl ρ1 r with
      | some (d, ρ2) => (gv C g d ρ2).map fun ρ3 => (.nxt, ρ3)
      | none => none)
    | none => none
  | .par is es, ρ => match evs C es ρ with
    | some (rs, ρ1) => if noAt rs then (setAll ρ1 is rs).map fun ρ3 => (.nxt, ρ3) else (match rds ρ1 rs, stls ρ1 rs with
      | some ds, some ρ2 => (setAll ρ2 is (ds.map .val)).map fun ρ3 => (.nxt, ρ3)
      | _, _ => none)
    | none => none
  | .ex e, ρ => match ev C e ρ with
    | some (_, ρ1) => some (.nxt, ρ1)
    | none => none
  | .ret e, ρ => match ev C e ρ with
    | some (r, ρ1) => some (.ret r, ρ1)
    | none => none
  | .retN, ρ => some (.ret (.val .non), ρ)
  | .ife c a b, ρ => match tv C c ρ with
    | some (true, ρ1) => svs C a ρ1
    | some (false, ρ1) => svs C b ρ1
    | none => none
  | .whl c b, ρ => whlF (tv C c) (svs C b) C.W ρ
  | .for_ g it b, ρ => match itv C it ρ with
    | some (ds, rs, ρ1) => (match stls ρ1 rs with
      | some ρ2 => forF (gv C g) (svs C b) ds ρ2
      | none => none)
    | none => none
  | .brk, ρ => some (.brk, ρ)
  | .cnt, ρ => some (.cnt, ρ)
  | .pass, ρ => some (.nxt, ρ)
  | .never, _ => none
  | .spoil i f es g ps, ρ => match evs C es ρ with
    | some (rs, ρ1) => (match arrange rs g with
      | some qs => (match rds ρ1 qs with
        | some ds => (match C.call f ds with
          | some (.new d, none) => if (D.bares ds && ps.all (skD d) && decide (ps.length ≤ 100) && decide (i < ρ1.length)) = true then some (.nxt, ρ1.set i .no) else none
          | some (.val d, none) => if (D.bares ds && ps.all (skD d) && decide (ps.length ≤ 100) && decide (i < ρ1.length)) = true then some (.nxt, ρ1.set i .no) else none
          | _ => none)
        | none => none)
      | none => none)
    | none => none
def svs (C : Cf) : Sxs → Env → Option (Out × Env)
  | .nil, ρ => some (.nxt, ρ)
  | .cons s ss, ρ => match sv C s ρ with
    | some (.nxt, ρ1) => svs C ss ρ1
    | r => r
end
/-! ### defs -/
structure Fn where
  params : Nat
  slots : Nat
  mu : Bool
  body : Sxs
def entry (F : Fn) (ds : List D) : Env :=
  (match F.mu, ds with
    | true, d :: r => .bor d :: r.map .val
    | _, ds => ds.map .val) ++ List.replicate (F.slots - F.params) .no
def retv (F : Fn) (ρ : Env) : RV → Option RV
  | .at i => (match (ρ[i]? : Option Sl) with
    | some (.own d) => some (.new d)
    | some (.val d) => some (.val d)
    | _ => none)
  | r => some r
def leave (F : Fn) (r : RV) (ρ : Env) : Option (RV × Option D) := match retv F ρ r with
  | none => none
  | some r' => if F.mu then (match (ρ[0]? : Option Sl) with
    | some (.bor d) => some (r', some d)
    | _ => none) else some (r', none)
def callF (W : Nat) (Γ : Str → Option Fn) : Nat → Str → List D → Option (RV × Option D)
  | 0, _, _ => none
  | n + 1, f, ds => match Γ f with
    | none => none
    | some F => if ds.length = F.params then (match svs ⟨callF W Γ n, W⟩ F.body (entry F ds) with
        | some (.ret r, ρ) => leave F r ρ
        | some (.nxt, ρ) => leave F (.val .non) ρ
        | _ => none) else none
end Z

set_option linter.all false
set_option autoImplicit false
set_option Elab.async false
set_option maxRecDepth 100000
/-! Z, part 2: how data stand in the heap; the relation of a state of the evaluator to a state of the layer. -/
namespace Z
open PySem PySem.Spec PyProof.Rows L2
abbrev Frag := PySem.W.Frag
abbrev St := L2.St

theorem Same.seqL {K : Frag} {F G : Hp} (h : Same F G) {a : Addr} {xs : List V} (x : SqL K F a xs) : SqL K G a xs := by
  rcases x with x | x
  · rcases x with x | ⟨o, x⟩
    · exact .inl (.inl (h _ _ x))
    · exact .inl (.inr ⟨o, h _ _ x⟩)
  · exact .inr x
theorem Same.seqT {K : Frag} {F G : Hp} (h : Same F G) {a : Addr} {xs : List V} (x : SqT K F a xs) : SqT K G a xs := by
  rcases x with x | x
  · rcases x with x | ⟨o, x⟩
    · exact .inl (.inl (h _ _ x))
    · exact .inl (.inr ⟨o, h _ _ x⟩)
  · exact .inr x
def kD : Key → D
  | .inl i => .int i
  | .inr s => .str s
/-- the entries of a dict with such keys: where the keys stand, what they stand for -/
abbrev NE := NestedKey × Addr × V
def neOf (w : World) (q : NestedKey × Addr × Value) : DictEntry := ⟨q.1.hash w, .ref q.2.1, q.2.2⟩
abbrev NEs : List NE → List (NestedKey × Addr × Value) → Prop := Paired fun p q => p.1 = q.1 ∧ p.2.1 = q.2.1 ∧ RelV p.2.2 q.2.2
def DNp (od : Obj) (a : Addr) (xs : List NE) : Prop := ∃ (w : World) (us : List (NestedKey × Addr × Value)) (es : Array DictEntry) (ep : Nat),
  xs.length ≤ sizeLine ∧ (a == sysModules) = false ∧ NEs xs us ∧ od.ExactDict ∧ od.data = .dict es ep ∧ es.toList = us.map (neOf w) ∧ (xs.map (·.1)).Nodup
/-- the object at a is od, a dict of these entries -/
def DN (a : Addr) (od : Obj) (xs : List NE) : Heap → Prop := fun h => h.get? a = some od ∧ DNp od a xs
abbrev dN (a : Addr) (od : Obj) (xs : List NE) : HO := .ext (DN a od xs)
mutual
/-- data as they stand in F -/
inductive Rp (K : Frag) (F : Hp) : V → D → Prop
  | non : Rp K F .non .non
  | bl (b : Bool) : Rp K F (.bl b) (.bl b)
  | int (i : Int) : Rp K F (.int i) (.int i)
  | str (x : Str) : Rp K F (.str x) (.str x)
  | lst {a : Addr} {xs : List V} {ds : List D} : F a = some (.lst xs) → Rps K F xs ds → Rp K F (.ref a) (.lst ds)
  | scr {a : Addr} {ns : List Int} : SqL K F a (ns.map V.int) → Rp K F (.ref a) (.scr ns)
  | tup {a : Addr} {xs : List V} {ds : List D} : SqT K F a xs → Rps K F xs ds → Rp K F (.ref a) (.tup ds)
  | dic {a : Addr} {kvs : List (Key × V)} {ds : List (D × D)} : F a = some (.dK kvs) → KRps K F kvs ds → Rp K F (.ref a) (.dic ds)
  | dicN {a : Addr} {od : Obj} {kvs : List NE} {ds : List (D × D)} : F a = some (dN a od kvs) → NRps K F kvs ds → Rp K F (.ref a) (.dic ds)
inductive Rps (K : Frag) (F : Hp) : List V → List D → Prop
  | nil : Rps K F [] []
  | cons {v : V} {vs : List V} {d : D} {ds : List D} : Rp K F v d → Rps K F vs ds → Rps K F (v :: vs) (d :: ds)
inductive KRps (K : Frag) (F : Hp) : List (Key × V) → List (D × D) → Prop
  | nil : KRps K F [] []
  | cons {k : Key} {v : V} {vs : List (Key × V)} {d : D} {ds : List (D × D)} : Rp K F v d → KRps K F vs ds → KRps K F ((k, v) :: vs) ((kD k, d) :: ds)
inductive NRps (K : Frag) (F : Hp) : List NE → List (D × D) → Prop
  | nil : NRps K F [] []
  | cons {k : NestedKey} {b : Addr} {v : V} {vs : List NE} {q d : D} {ds : List (D × D)} : nkT q = some k → Rp K F (.ref b) q → Rp K F v d → NRps K F vs ds → NRps K F ((k, b, v) :: vs) ((q, d) :: ds)
end
section
variable {K : Frag} {F G H : Hp}
mutual
theorem Rp.mono (h : Same F G) : ∀ {d : D} {v : V}, Rp K F v d → Rp K G v d
  | .non, _, .non => .non
  | .bl _, _, .bl _ => .bl _
  | .int _, _, .int _ => .int _
  | .str _, _, .str _ => .str _
  | .lst ds, _, .lst q r => .lst (h _ _ q) (Rps.mono h r)
  | .scr ns, _, .scr q => .scr (Same.seqL h q)
  | .tup ds, _, .tup q r => .tup (Same.seqT h q) (Rps.mono h r)
  | .dic ds, _, .dic q r => .dic (h _ _ q) (KRps.mono h r)
  | .dic ds, _, .dicN q r => .dicN (h _ _ q) (NRps.mono h r)
theorem Rps.mono (h : Same F G) : ∀ {ds : List D} {vs : List V}, Rps K F vs ds → Rps K G vs ds
  | [], _, .nil => .nil
  | _ :: _, _, .cons q r => .cons (Rp.mono h q) (Rps.mono h r)
theorem KRps.mono (h : Same F G) : ∀ {ds : List (D × D)} {vs : List (Key × V)}, KRps K F vs ds → KRps K G vs ds
  | [], _, .nil => .nil
  | _ :: _, _, .cons q r => .cons (Rp.mono h q) (KRps.mono h r)
theorem NRps.mono (h : Same F G) : ∀ {ds : List (D × D)} {vs : List NE}, NRps K F vs ds → NRps K G vs ds
  | [], _, .nil => .nil
  | _ :: _, _, .cons e k q r => .cons e (Rp.mono h k) (Rp.mono h q) (NRps.mono h r)
end
theorem Rps.length {vs : List V} {ds : List D} (h : Rps K F vs ds) : vs.length = ds.length := by
  induction ds generalizing vs with
  | nil => cases h; rfl
  | cons d ds ih => cases h with | cons q r => exact congrArg Nat.succ (ih r)
theorem Rps.get {vs : List V} {ds : List D} (h : Rps K F vs ds) : ∀ {i : Nat} {d : D}, ds[i]? = some d → ∃ v, vs[i]? = some v ∧ Rp K F v d := by
  induction ds generalizing vs with
  | nil => intro i d e; simp at e
  | cons x ds ih =>
    intro i d e
    cases h with
    | cons q r =>
      cases i with
      | zero => simp at e; subst e; exact ⟨_, rfl, q⟩
      | succ i => exact ih r (by simpa using e)
theorem Rps.get' {vs : List V} {ds : List D} (h : Rps K F vs ds) : ∀ {i : Nat} {v : V}, vs[i]? = some v → ∃ d, ds[i]? = some d ∧ Rp K F v d := by
  induction ds generalizing vs with
  | nil => intro i d e; cases h; simp at e
  | cons x ds ih =>
    intro i d e
    cases h with
    | cons q r =>
      cases i with
      | zero => simp at e; subst e; exact ⟨_, rfl, q⟩
      | succ i => exact ih r (by simpa using e)
theorem Rps.append {vs us : List V} {ds es : List D} (h : Rps K F vs ds) (g : Rps K F us es) : Rps K F (vs ++ us) (ds ++ es) := by
  induction ds generalizing vs with
  | nil => cases h; exact g
  | cons d ds ih => cases h with | cons q r => exact .cons q (ih r)
theorem Rps.one {v : V} {d : D} (h : Rp K F v d) : Rps K F [v] [d] := .cons h .nil
theorem Rps.take {vs : List V} {ds : List D} (h : Rps K F vs ds) : ∀ n : Nat, Rps K F (vs.take n) (ds.take n) := by
  induction ds generalizing vs with
  | nil => cases h; intro n; simp; exact .nil
  | cons d ds ih =>
    intro n
    cases h with
    | cons q r =>
      cases n with
      | zero => exact .nil
      | succ n => exact .cons q (ih r n)
theorem Rps.drop {vs : List V} {ds : List D} (h : Rps K F vs ds) : ∀ n : Nat, Rps K F (vs.drop n) (ds.drop n) := by
  induction ds generalizing vs with
  | nil => cases h; intro n; simp; exact .nil
  | cons d ds ih =>
    intro n
    cases h with
    | cons q r =>
      cases n with
      | zero => exact .cons q r
      | succ n => exact ih r n
theorem Rps.reverse {vs : List V} {ds : List D} (h : Rps K F vs ds) : Rps K F vs.reverse ds.reverse := by
  induction ds generalizing vs with
  | nil => cases h; exact .nil
  | cons d ds ih =>
    cases h with
    | cons q r =>
      rw [List.reverse_cons, List.reverse_cons]
      exact (ih r).append (.one q)
theorem Rps.set {vs : List V} {ds : List D} (h : Rps K F vs ds) {v : V} {d : D} (g : Rp K F v d) : ∀ i : Nat, Rps K F (vs.set i v) (ds.set i d) := by
  induction ds generalizing vs with
  | nil => cases h; intro i; exact .nil
  | cons e ds ih =>
    intro i
    cases h with
    | cons q r =>
      cases i with
      | zero => exact .cons g r
      | succ i => exact .cons q (ih r i)
theorem Rps.rep {vs : List V} {ds : List D} (h : Rps K F vs ds) : ∀ n : Nat, Rps K F (List.replicate n vs).flatten (List.replicate n ds).flatten
  | 0 => .nil
  | n + 1 => by
    rw [List.replicate_succ, List.replicate_succ, List.flatten_cons, List.flatten_cons]
    exact h.append (Rps.rep h n)
theorem Rps.ints {vs : List V} : ∀ {ns : List Int}, Rps K F vs (ns.map .int) → vs = ns.map V.int := by
  intro ns
  induction ns generalizing vs with
  | nil => intro h; cases h; rfl
  | cons n ns ih =>
    intro h
    cases h with
    | cons q r =>
      cases q
      rw [List.map_cons, ih r]
theorem Rps.ofInts : ∀ (ns : List Int), Rps K F (ns.map V.int) (ns.map .int)
  | [] => .nil
  | n :: r => .cons (.int n) (Rps.ofInts r)
/-- data without objects need no heap -/
theorem Rp.imm {v : V} {d : D} (h : Rp K F v d) (i : d.imm = true) : Rp K G v d := by
  cases h with
  | non => exact .non
  | bl => exact .bl _
  | int => exact .int _
  | str => exact .str _
  | lst => cases i
  | scr => cases i
  | tup => cases i
  | dic => cases i
  | dicN => cases i
theorem Rps.imm {vs : List V} {ds : List D} (h : Rps K F vs ds) (i : ds.all D.imm = true) : Rps K G vs ds := by
  induction ds generalizing vs with
  | nil => cases h; exact .nil
  | cons d ds ih =>
    cases h with
    | cons q r =>
      rw [List.all_cons, Bool.and_eq_true] at i
      exact .cons (q.imm i.1) (ih r i.2)
end

/-! ### an object of one's own -/
def Ob (K : Frag) (F H : Hp) (a : Addr) : D → Prop
  | .lst ds => ∃ xs, H a = some (.lst xs) ∧ Rps K F xs ds
  | .dic ds => (∃ kvs, H a = some (.dK kvs) ∧ KRps K F kvs ds) ∨ ∃ od kvs, H a = some (dN a od kvs) ∧ NRps K F kvs ds
  | _ => False
theorem Ob.mono {K : Frag} {F G H J : Hp} {a : Addr} {d : D} (h : Same F G) (e : ∀ o, H a = some o → J a = some o) (x : Ob K F H a d) : Ob K G J a d := by
  cases d with
  | lst ds => obtain ⟨xs, q, r⟩ := x; exact ⟨xs, e _ q, r.mono h⟩
  | dic ds =>
    rcases x with ⟨xs, q, r⟩ | ⟨od, xs, q, r⟩
    · exact .inl ⟨xs, e _ q, r.mono h⟩
    · exact .inr ⟨od, xs, e _ q, r.mono h⟩
  | _ => exact x.elim
theorem Ob.ex {K : Frag} {F H : Hp} {a : Addr} {d : D} (x : Ob K F H a d) : ∃ o, H a = some o := by
  cases d with
  | lst ds => obtain ⟨xs, q, r⟩ := x; exact ⟨_, q⟩
  | dic ds =>
    rcases x with ⟨xs, q, r⟩ | ⟨od, xs, q, r⟩
    · exact ⟨_, q⟩
    · exact ⟨_, q⟩
  | _ => exact x.elim
/-- read: kept data, or an object of one's own as it stands -/
def Lk (K : Frag) (F H : Hp) (v : V) : D → Prop
  | .lst ds => ∃ a xs, v = .ref a ∧ H a = some (.lst xs) ∧ Rps K F xs ds
  | .scr ns => ∃ a, v = .ref a ∧ SqL K F a (ns.map V.int)
  | .tup ds => ∃ a xs, v = .ref a ∧ SqT K F a xs ∧ Rps K F xs ds
  | .dic ds => (∃ a kvs, v = .ref a ∧ H a = some (.dK kvs) ∧ KRps K F kvs ds) ∨ ∃ a od kvs, v = .ref a ∧ H a = some (dN a od kvs) ∧ NRps K F kvs ds
  | .non => v = .non
  | .bl b => v = .bl b
  | .int i => v = .int i
  | .str s => v = .str s
theorem Lk.of {K : Frag} {F H : Hp} {v : V} {d : D} (s : Same F H) (h : Rp K F v d) : Lk K F H v d := by
  cases h with
  | non => rfl
  | bl => rfl
  | int => rfl
  | str => rfl
  | lst q r => exact ⟨_, _, rfl, s _ _ q, r⟩
  | scr q => exact ⟨_, rfl, q⟩
  | tup q r => exact ⟨_, _, rfl, q, r⟩
  | dic q r => exact .inl ⟨_, _, rfl, s _ _ q, r⟩
  | dicN q r => exact .inr ⟨_, _, _, rfl, s _ _ q, r⟩
theorem Lk.ob {K : Frag} {F H : Hp} {a : Addr} {d : D} (h : Ob K F H a d) : Lk K F H (.ref a) d := by
  cases d with
  | lst ds => obtain ⟨xs, q, r⟩ := h; exact ⟨a, xs, rfl, q, r⟩
  | dic ds =>
    rcases h with ⟨xs, q, r⟩ | ⟨od, xs, q, r⟩
    · exact .inl ⟨a, xs, rfl, q, r⟩
    · exact .inr ⟨a, od, xs, rfl, q, r⟩
  | _ => exact h.elim
theorem Lk.rp {K : Frag} {F H : Hp} {v : V} {d : D} (s : Same F H) (h : Lk K F H v d) : Rp K H v d := by
  cases d with
  | non => obtain rfl := h; exact .non
  | bl => obtain rfl := h; exact .bl _
  | int => obtain rfl := h; exact .int _
  | str => obtain rfl := h; exact .str _
  | lst ds => obtain ⟨a, xs, rfl, q, r⟩ := h; exact .lst q (r.mono s)
  | scr ds => obtain ⟨a, rfl, q⟩ := h; exact .scr (Same.seqL s q)
  | tup ds => obtain ⟨a, xs, rfl, q, r⟩ := h; exact .tup (Same.seqT s q) (r.mono s)
  | dic ds =>
    rcases h with ⟨a, xs, rfl, q, r⟩ | ⟨a, od, xs, rfl, q, r⟩
    · exact .dic q (r.mono s)
    · exact .dicN q (r.mono s)
theorem Lk.imm {K : Frag} {F H G : Hp} {v : V} {d : D} (h : Lk K F H v d) (i : d.imm = true) : Rp K G v d := by
  cases d with
  | non => obtain rfl := h; exact .non
  | bl => obtain rfl := h; exact .bl _
  | int => obtain rfl := h; exact .int _
  | str => obtain rfl := h; exact .str _
  | _ => cases i

/-! ### the relation -/
/-- a def's entry: the heap, the part that is kept, the caller's object that may be changed -/
structure Bs where
  H0 : Hp
  F0 : Hp
  bo : Option Addr
structure Rl (K : Frag) (b : Bs) (σ : St) (H : Hp) (ρ : Env) (F : Hp) (ad : Nat → Addr) : Prop where
  sub : Same F H
  f0 : Same b.F0 F
  fd : ∀ a o, F a = some o → b.F0 a = some o ∨ b.H0 a = none
  old : ∀ a o, b.H0 a = some o → b.bo ≠ some a → H a = some o
  dom : ∀ a, H a = none → b.H0 a = none
  len : ρ.length = σ.length
  val : ∀ (i : Nat) d, ρ[i]? = some (.val d) → ∃ v, σ[i]? = some (some v) ∧ Rp K F v d
  cel : ∀ (i : Nat) s d, ρ[i]? = some s → s.cell = some d → σ[i]? = some (some (.ref (ad i))) ∧ F (ad i) = none ∧ Ob K F H (ad i) d
  inj : ∀ (i j : Nat) s t d e, ρ[i]? = some s → ρ[j]? = some t → s.cell = some d → t.cell = some e → ad i = ad j → i = j
  own : ∀ (i : Nat) d, ρ[i]? = some (.own d) → b.H0 (ad i) = none
  bor : ∀ (i : Nat) d, ρ[i]? = some (.bor d) → b.bo = some (ad i)
/-- an answer: where it stands -/
def RvR (K : Frag) (b : Bs) (σ : St) (H : Hp) (ρ : Env) (F : Hp) (ad : Nat → Addr) (v : V) : RV → Prop
  | .val d => Rp K F v d
  | .new d => ∃ a, v = .ref a ∧ F a = none ∧ Ob K F H a d ∧ (∀ (i : Nat) s d, ρ[i]? = some s → s.cell = some d → ad i ≠ a) ∧ b.H0 a = none
  | .at i => σ[i]? = some (some v)
/-- an answer that is kept in mind -/
def Hd (K : Frag) (σ : St) (F : Hp) (v : V) : RV → Prop
  | .val d => Rp K F v d
  | .new d => Rp K F v d
  | .at i => σ[i]? = some (some v)
theorem Hd.mono {K : Frag} {σ : St} {F G : Hp} {v : V} {r : RV} (h : Same F G) (x : Hd K σ F v r) : Hd K σ G v r := by
  cases r with
  | val d => exact Rp.mono h x
  | new d => exact Rp.mono h x
  | «at» i => exact x
inductive Hds (K : Frag) (σ : St) (F : Hp) : List V → List RV → Prop
  | nil : Hds K σ F [] []
  | cons {v : V} {vs : List V} {r : RV} {rs : List RV} : Hd K σ F v r → Hds K σ F vs rs → Hds K σ F (v :: vs) (r :: rs)
theorem Hds.length {K : Frag} {σ : St} {F : Hp} {vs : List V} {rs : List RV} (x : Hds K σ F vs rs) : vs.length = rs.length := by
  induction x with
  | nil => rfl
  | cons _ _ ih => exact congrArg Nat.succ ih
theorem Hds.mono {K : Frag} {σ : St} {F G : Hp} {vs : List V} {rs : List RV} (h : Same F G) (x : Hds K σ F vs rs) : Hds K σ G vs rs := by
  induction x with
  | nil => exact .nil
  | cons a _ ih => exact .cons (a.mono h) ih
section
variable {K : Frag} {b : Bs} {σ : St} {H : Hp} {ρ : Env} {F : Hp} {ad : Nat → Addr}
theorem Rl.free (R : Rl K b σ H ρ F ad) {p : Addr} (h : H p = none) : F p = none := by
  cases e : F p with
  | none => rfl
  | some o => rw [R.sub _ _ e] at h; cases h
theorem Rl.celS (R : Rl K b σ H ρ F ad) {i : Nat} {s : Sl} {d : D} (e : ρ[i]? = some s) (c : s.cell = some d) : ∃ o, H (ad i) = some o := Ob.ex (R.cel i s d e c).2.2
theorem Rl.celN (R : Rl K b σ H ρ F ad) {p : Addr} (h : H p = none) : ∀ (i : Nat) s d, ρ[i]? = some s → s.cell = some d → ad i ≠ p := fun i s d e c z => by
  obtain ⟨o, q⟩ := R.celS e c
  rw [z, h] at q; cases q
/-- a new object -/
theorem Rl.alloc (R : Rl K b σ H ρ F ad) {p : Addr} {o : HO} (h : H p = none) : Rl K b σ (upd H p o) ρ F ad where
  sub := fun a u e => by rw [upd_ne (ne_of_none (R.sub _ _ e) h)]; exact R.sub _ _ e
  f0 := R.f0
  fd := R.fd
  old := fun a u e n => by rw [upd_ne (ne_of_none (R.old _ _ e n) h)]; exact R.old _ _ e n
  dom := fun a e => by
    by_cases z : a = p
    · rw [z]; exact R.dom _ h
    · rw [upd_ne z] at e; exact R.dom _ e
  len := R.len
  val := R.val
  cel := fun i s d e c => by
    obtain ⟨q1, q2, q3⟩ := R.cel i s d e c
    exact ⟨q1, q2, q3.mono (Same.refl _) fun u e => by rw [upd_ne (ne_of_none e h)]; exact e⟩
  inj := R.inj
  own := R.own
  bor := R.bor
/-- .. kept -/
theorem Rl.keepNew (R : Rl K b σ H ρ F ad) {p : Addr} {o : HO} (e : H p = some o) (hF : F p = none) (h0 : b.H0 p = none) (hc : ∀ (i : Nat) s d, ρ[i]? = some s → s.cell = some d → ad i ≠ p) : Rl K b σ H ρ (upd F p o) ad ∧ Same F (upd F p o) := by
  have s1 : Same F (upd F p o) := fun a u q => by rw [upd_ne (ne_of_none q hF)]; exact q
  refine ⟨{ sub := fun a u q => ?_, f0 := R.f0.trans s1, fd := fun a u q => ?_, old := R.old, dom := R.dom, len := R.len, val := fun i d q => ?_, cel := fun i s d q c => ?_, inj := R.inj, own := R.own, bor := R.bor }, s1⟩
  · by_cases z : a = p
    · subst z; rw [upd_same] at q; cases q; exact e
    · rw [upd_ne z] at q; exact R.sub _ _ q
  · by_cases z : a = p
    · subst z; exact .inr h0
    · rw [upd_ne z] at q; exact R.fd _ _ q
  · obtain ⟨v, q1, q2⟩ := R.val i d q
    exact ⟨v, q1, q2.mono s1⟩
  · obtain ⟨q1, q2, q3⟩ := R.cel i s d q c
    exact ⟨q1, by rw [upd_ne (hc i s d q c)]; exact q2, q3.mono s1 fun _ z => z⟩
theorem Ob.rp {a : Addr} {d : D} {G : Hp} (h : Ob K F H a d) (s : Same F G) (e : ∀ o, H a = some o → G a = some o) : Rp K G (.ref a) d := by
  cases d with
  | lst ds => obtain ⟨xs, q, r⟩ := h; exact .lst (e _ q) (r.mono s)
  | dic ds =>
    rcases h with ⟨xs, q, r⟩ | ⟨od, xs, q, r⟩
    · exact .dic (e _ q) (r.mono s)
    · exact .dicN (e _ q) (r.mono s)
  | _ => exact h.elim
/-- an answer is kept in mind -/
theorem Rl.hold (R : Rl K b σ H ρ F ad) {v : V} {r : RV} (x : RvR K b σ H ρ F ad v r) : ∃ F', Rl K b σ H ρ F' ad ∧ Same F F' ∧ Hd K σ F' v r := by
  cases r with
  | val d => exact ⟨F, R, Same.refl _, x⟩
  | «at» i => exact ⟨F, R, Same.refl _, x⟩
  | new d =>
    obtain ⟨a, rfl, hF, ob, hc, h0⟩ := x
    obtain ⟨o, e⟩ := Ob.ex ob
    obtain ⟨R', s⟩ := R.keepNew e hF h0 hc
    exact ⟨_, R', s, Ob.rp ob s fun u q => by rw [e] at q; cases q; exact upd_same⟩
/-- what an answer says now -/
theorem Rl.look (R : Rl K b σ H ρ F ad) {v : V} {r : RV} {d : D} (x : Hd K σ F v r) (e : rd ρ r = some d) : Lk K F H v d := by
  cases r with
  | val d' => cases e; exact Lk.of R.sub x
  | new d' => cases e; exact Lk.of R.sub x
  | «at» i =>
    have x' : σ[i]? = some (some v) := x
    unfold rd at e
    dsimp only at e
    cases q : ρ[i]? with
    | none => rw [q] at e; cases e
    | some s =>
      rw [q] at e
      cases s with
      | no => cases e
      | val d' =>
        cases e
        obtain ⟨w, q1, q2⟩ := R.val i d q
        rw [x'] at q1; cases q1
        exact Lk.of R.sub q2
      | own d' =>
        cases e
        obtain ⟨q1, _, q3⟩ := R.cel i _ d q rfl
        rw [x'] at q1; cases q1
        exact Lk.ob q3
      | bor d' =>
        cases e
        obtain ⟨q1, _, q3⟩ := R.cel i _ d q rfl
        rw [x'] at q1; cases q1
        exact Lk.ob q3
/-- an answer, before it is kept in mind -/
theorem Rl.look' (R : Rl K b σ H ρ F ad) {v : V} {r : RV} {d : D} (x : RvR K b σ H ρ F ad v r) (e : rd ρ r = some d) : Lk K F H v d := by
  cases r with
  | val d' => cases e; exact Lk.of R.sub x
  | «at» i => exact R.look (r := .at i) x e
  | new d' =>
    cases e
    obtain ⟨a, rfl, _, ob, _⟩ := x
    exact Lk.ob ob
/-- an object that is no slot's and not kept is changed -/
theorem Rl.over (R : Rl K b σ H ρ F ad) {p : Addr} {o : HO} (hF : F p = none) (h0 : b.H0 p = none) (hc : ∀ (i : Nat) s d, ρ[i]? = some s → s.cell = some d → ad i ≠ p) : Rl K b σ (upd H p o) ρ F ad where
  sub := fun a u e => by rw [upd_ne (ne_of_none e hF)]; exact R.sub _ _ e
  f0 := R.f0
  fd := R.fd
  old := fun a u e n => by rw [upd_ne (ne_of_none e h0)]; exact R.old _ _ e n
  dom := fun a e => by
    by_cases z : a = p
    · rw [z]; exact h0
    · rw [upd_ne z] at e; exact R.dom _ e
  len := R.len
  val := R.val
  cel := fun i s d e c => by
    obtain ⟨q1, q2, q3⟩ := R.cel i s d e c
    exact ⟨q1, q2, q3.mono (Same.refl _) fun u q => by rw [upd_ne (hc i s d e c)]; exact q⟩
  inj := R.inj
  own := R.own
  bor := R.bor
theorem Sl.to_cell {s : Sl} {d d' : D} (c : s.cell = some d) : (s.to d').cell = some d' := by
  cases s with
  | no => cases c
  | val => cases c
  | own => rfl
  | bor => rfl
/-- a slot's object is changed -/
theorem Rl.put (R : Rl K b σ H ρ F ad) {i : Nat} {s : Sl} {d d' : D} {o : HO} (e : ρ[i]? = some s) (c : s.cell = some d) (n : Ob K F (upd H (ad i) o) (ad i) d') : Rl K b σ (upd H (ad i) o) (ρ.set i (s.to d')) F ad := by
  obtain ⟨c1, c2, c3⟩ := R.cel i _ d e c
  obtain ⟨ow, how⟩ := Ob.ex c3
  have hi : i < ρ.length := (List.getElem?_eq_some_iff.mp e).1
  have ne : ∀ (j : Nat) t, (ρ.set i (s.to d'))[j]? = some t → (j = i ∧ t = s.to d') ∨ (j ≠ i ∧ ρ[j]? = some t) := fun j t q => by
    by_cases z : j = i
    · subst z; rw [List.getElem?_set_self hi] at q; cases q; exact .inl ⟨rfl, rfl⟩
    · rw [List.getElem?_set_ne (Ne.symm z)] at q; exact .inr ⟨z, q⟩
  refine { sub := fun a u q => ?_, f0 := R.f0, fd := R.fd, old := fun a u q nb => ?_, dom := fun a q => ?_, len := by rw [List.length_set]; exact R.len, val := fun j x q => ?_, cel := fun j t x q ct => ?_, inj := fun j k t u x y q1 q2 t1 t2 z => ?_, own := fun j x q => ?_, bor := fun j x q => ?_ }
  · rw [upd_ne (ne_of_none q c2)]
    exact R.sub _ _ q
  · have h1 := R.old a u q nb
    rw [upd_ne fun z => ?_]
    · exact h1
    · subst z
      cases s with
      | no => cases c
      | val => cases c
      | own => rw [R.own i _ e] at q; cases q
      | bor => exact nb (R.bor i _ e)
  · by_cases z : a = ad i
    · rw [z, upd_same] at q; cases q
    · rw [upd_ne z] at q; exact R.dom a q
  · rcases ne j _ q with ⟨rfl, h⟩ | ⟨h, q⟩
    · cases s with
      | no => cases c
      | val => cases c
      | own => cases h
      | bor => cases h
    · exact R.val j x q
  · rcases ne j _ q with ⟨rfl, h⟩ | ⟨h, q⟩
    · subst h
      rw [Sl.to_cell c] at ct
      cases ct
      exact ⟨c1, c2, n⟩
    · obtain ⟨q1, q2, q3⟩ := R.cel j t x q ct
      exact ⟨q1, q2, q3.mono (Same.refl _) fun u hu => by rw [upd_ne fun z => h (R.inj j i _ _ _ _ q e ct c z)]; exact hu⟩
  · rcases ne j _ q1 with ⟨hj, h⟩ | ⟨h, q1'⟩
    · rcases ne k _ q2 with ⟨hk, h2⟩ | ⟨h2, q2'⟩
      · rw [hj, hk]
      · exact R.inj j k s u d y (hj ▸ e) q2' c t2 z
    · rcases ne k _ q2 with ⟨hk, h2⟩ | ⟨h2, q2'⟩
      · exact R.inj j k t s x d q1' (hk ▸ e) t1 c z
      · exact R.inj j k t u x y q1' q2' t1 t2 z
  · rcases ne j _ q with ⟨rfl, h⟩ | ⟨h, q⟩
    · cases s with
      | no => cases c
      | val => cases c
      | own => exact R.own j _ e
      | bor => cases h
    · exact R.own j x q
  · rcases ne j _ q with ⟨rfl, h⟩ | ⟨h, q⟩
    · cases s with
      | no => cases c
      | val => cases c
      | own => cases h
      | bor => exact R.bor j _ e
    · exact R.bor j x q
/-- a slot's object is kept: it may not be changed any more -/
theorem Rl.frz (R : Rl K b σ H ρ F ad) {i : Nat} {d : D} (e : ρ[i]? = some (.own d)) : ∃ F', Rl K b σ H (ρ.set i (.val d)) F' ad ∧ Same F F' := by
  obtain ⟨c1, c2, c3⟩ := R.cel i _ d e rfl
  obtain ⟨o, ho⟩ := Ob.ex c3
  have s1 : Same F (upd F (ad i) o) := fun a u q => by rw [upd_ne (ne_of_none q c2)]; exact q
  have hi : i < ρ.length := (List.getElem?_eq_some_iff.mp e).1
  have ne : ∀ (j : Nat) s, (ρ.set i (.val d))[j]? = some s → (j = i ∧ s = .val d) ∨ (j ≠ i ∧ ρ[j]? = some s) := fun j s q => by
    by_cases z : j = i
    · subst z; rw [List.getElem?_set_self hi] at q; cases q; exact .inl ⟨rfl, rfl⟩
    · rw [List.getElem?_set_ne (Ne.symm z)] at q; exact .inr ⟨z, q⟩
  refine ⟨_, { sub := fun a u q => ?_, f0 := R.f0.trans s1, fd := fun a u q => ?_, old := R.old, dom := R.dom, len := by rw [List.length_set]; exact R.len, val := fun j x q => ?_, cel := fun j s x q c => ?_, inj := fun j k s t x y q1 q2 t1 t2 z => ?_, own := fun j x q => ?_, bor := fun j x q => ?_ }, s1⟩
  · by_cases z : a = ad i
    · subst z; rw [upd_same] at q; cases q; exact ho
    · rw [upd_ne z] at q; exact R.sub _ _ q
  · by_cases z : a = ad i
    · subst z; exact .inr (R.own i d e)
    · rw [upd_ne z] at q; exact R.fd _ _ q
  · rcases ne j _ q with ⟨rfl, h⟩ | ⟨h, q⟩
    · cases h
      exact ⟨_, c1, Ob.rp c3 s1 fun u z => by rw [ho] at z; cases z; exact upd_same⟩
    · obtain ⟨v, q1, q2⟩ := R.val j x q
      exact ⟨v, q1, q2.mono s1⟩
  · rcases ne j _ q with ⟨rfl, h⟩ | ⟨h, q⟩
    · subst h; cases c
    · obtain ⟨q1, q2, q3⟩ := R.cel j s x q c
      exact ⟨q1, by rw [upd_ne fun z => h (R.inj j i _ _ _ _ q e c rfl z)]; exact q2, q3.mono s1 fun _ z => z⟩
  · rcases ne j _ q1 with ⟨rfl, h⟩ | ⟨h, q1⟩
    · subst h; cases t1
    · rcases ne k _ q2 with ⟨rfl, h2⟩ | ⟨h2, q2⟩
      · subst h2; cases t2
      · exact R.inj j k s t x y q1 q2 t1 t2 z
  · rcases ne j _ q with ⟨rfl, h⟩ | ⟨h, q⟩
    · cases h
    · exact R.own j x q
  · rcases ne j _ q with ⟨rfl, h⟩ | ⟨h, q⟩
    · cases h
    · exact R.bor j x q
/-- .. an answer that is kept elsewhere -/
theorem Rl.stl (R : Rl K b σ H ρ F ad) {v : V} {r : RV} {d : D} {ρ' : Env} (x : Hd K σ F v r) (e : stl ρ r = some (d, ρ')) : ∃ F', Rl K b σ H ρ' F' ad ∧ Same F F' ∧ Rp K F' v d := by
  cases r with
  | val d' => cases e; exact ⟨F, R, Same.refl _, x⟩
  | new d' => cases e; exact ⟨F, R, Same.refl _, x⟩
  | «at» i =>
    have x' : σ[i]? = some (some v) := x
    unfold Z.stl at e
    dsimp only at e
    cases q : ρ[i]? with
    | none => rw [q] at e; cases e
    | some s =>
      rw [q] at e
      cases s with
      | no => cases e
      | bor _ => cases e
      | val d' =>
        cases e
        obtain ⟨w, q1, q2⟩ := R.val i d q
        rw [x'] at q1; cases q1
        exact ⟨F, R, Same.refl _, q2⟩
      | own d' =>
        cases e
        obtain ⟨F', R', s⟩ := R.frz q
        refine ⟨F', R', s, ?_⟩
        have hi : i < ρ.length := (List.getElem?_eq_some_iff.mp q).1
        obtain ⟨w, q1, q2⟩ := R'.val i d (by rw [List.getElem?_set_self hi])
        rw [x'] at q1; cases q1
        exact q2
theorem stl_rd {ρ ρ' : Env} {r : RV} {d : D} (e : stl ρ r = some (d, ρ')) : rd ρ r = some d := by
  cases r with
  | val => cases e; rfl
  | new => cases e; rfl
  | «at» i =>
    unfold stl at e
    unfold rd
    dsimp only at e ⊢
    cases q : ρ[i]? with
    | none => rw [q] at e; cases e
    | some s => rw [q] at e; cases s <;> cases e <;> rfl
/-! ### slots stored -/
/-- a slot takes kept data -/
theorem Rl.setVal (R : Rl K b σ H ρ F ad) {i : Nat} {v : V} {d : D} (h : Rp K F v d) : Rl K b (σ.set i (some v)) H (ρ.set i (.val d)) F ad := by
  have ne : ∀ (j : Nat) t, (ρ.set i (.val d))[j]? = some t → (j = i ∧ t = .val d) ∨ (j ≠ i ∧ ρ[j]? = some t) := fun j t q => by
    by_cases z : j = i
    · subst z
      by_cases hi : j < ρ.length
      · rw [List.getElem?_set_self hi] at q; cases q; exact .inl ⟨rfl, rfl⟩
      · rw [List.getElem?_eq_none (by rw [List.length_set]; omega)] at q; cases q
    · rw [List.getElem?_set_ne (Ne.symm z)] at q; exact .inr ⟨z, q⟩
  refine { sub := R.sub, f0 := R.f0, fd := R.fd, old := R.old, dom := R.dom, len := by rw [List.length_set, List.length_set]; exact R.len, val := fun j x q => ?_, cel := fun j t x q ct => ?_, inj := fun j k t u x y q1 q2 t1 t2 z => ?_, own := fun j x q => ?_, bor := fun j x q => ?_ }
  · rcases ne j _ q with ⟨hj, h'⟩ | ⟨h', q'⟩
    · cases h'
      subst hj
      have hi : j < σ.length := by
        have := (List.getElem?_eq_some_iff.mp q).1
        rw [List.length_set, R.len] at this
        exact this
      exact ⟨v, by rw [List.getElem?_set_self hi], h⟩
    · obtain ⟨w, q1, q2⟩ := R.val j x q'
      exact ⟨w, by rw [List.getElem?_set_ne (Ne.symm h')]; exact q1, q2⟩
  · rcases ne j _ q with ⟨hj, h'⟩ | ⟨h', q'⟩
    · subst h'; cases ct
    · obtain ⟨q1, q2, q3⟩ := R.cel j t x q' ct
      exact ⟨by rw [List.getElem?_set_ne (Ne.symm h')]; exact q1, q2, q3⟩
  · rcases ne j _ q1 with ⟨hj, h'⟩ | ⟨h', q1'⟩
    · subst h'; cases t1
    · rcases ne k _ q2 with ⟨hk, h2⟩ | ⟨h2, q2'⟩
      · subst h2; cases t2
      · exact R.inj j k t u x y q1' q2' t1 t2 z
  · rcases ne j _ q with ⟨hj, h'⟩ | ⟨h', q'⟩
    · cases h'
    · exact R.own j x q'
  · rcases ne j _ q with ⟨hj, h'⟩ | ⟨h', q'⟩
    · cases h'
    · exact R.bor j x q'
/-- a slot takes a new object -/
theorem Rl.setOwn (R : Rl K b σ H ρ F ad) {i : Nat} {a : Addr} {d : D} (hF : F a = none) (ob : Ob K F H a d) (hc : ∀ (j : Nat) s d, ρ[j]? = some s → s.cell = some d → ad j ≠ a) (h0 : b.H0 a = none) :
    Rl K b (σ.set i (some (.ref a))) H (ρ.set i (.own d)) F (fun j => if j = i then a else ad j) := by
  have ne : ∀ (j : Nat) t, (ρ.set i (.own d))[j]? = some t → (j = i ∧ t = .own d) ∨ (j ≠ i ∧ ρ[j]? = some t) := fun j t q => by
    by_cases z : j = i
    · subst z
      by_cases hi : j < ρ.length
      · rw [List.getElem?_set_self hi] at q; cases q; exact .inl ⟨rfl, rfl⟩
      · rw [List.getElem?_eq_none (by rw [List.length_set]; omega)] at q; cases q
    · rw [List.getElem?_set_ne (Ne.symm z)] at q; exact .inr ⟨z, q⟩
  refine { sub := R.sub, f0 := R.f0, fd := R.fd, old := R.old, dom := R.dom, len := by rw [List.length_set, List.length_set]; exact R.len, val := fun j x q => ?_, cel := fun j t x q ct => ?_, inj := fun j k t u x y q1 q2 t1 t2 z => ?_, own := fun j x q => ?_, bor := fun j x q => ?_ }
  · rcases ne j _ q with ⟨hj, h'⟩ | ⟨h', q'⟩
    · cases h'
    · obtain ⟨w, q1, q2⟩ := R.val j x q'
      exact ⟨w, by rw [List.getElem?_set_ne (Ne.symm h')]; exact q1, q2⟩
  · rcases ne j _ q with ⟨hj, h'⟩ | ⟨h', q'⟩
    · subst h'
      cases ct
      have hi : i < σ.length := by
        have := (List.getElem?_eq_some_iff.mp q).1
        rw [List.length_set, R.len] at this
        rw [← hj]
        exact this
      rw [if_pos hj, hj]
      exact ⟨by rw [List.getElem?_set_self hi], hF, ob⟩
    · obtain ⟨q1, q2, q3⟩ := R.cel j t x q' ct
      rw [if_neg h']
      exact ⟨by rw [List.getElem?_set_ne (Ne.symm h')]; exact q1, q2, q3⟩
  · rcases ne j _ q1 with ⟨hj, h'⟩ | ⟨h', q1'⟩
    · rcases ne k _ q2 with ⟨hk, h2⟩ | ⟨h2, q2'⟩
      · rw [hj, hk]
      · rw [if_pos hj, if_neg h2] at z
        exact absurd z.symm (hc k u y q2' t2)
    · rcases ne k _ q2 with ⟨hk, h2⟩ | ⟨h2, q2'⟩
      · rw [if_neg h', if_pos hk] at z
        exact absurd z (hc j t x q1' t1)
      · rw [if_neg h', if_neg h2] at z
        exact R.inj j k t u x y q1' q2' t1 t2 z
  · rcases ne j _ q with ⟨hj, h'⟩ | ⟨h', q'⟩
    · rw [if_pos hj]; exact h0
    · rw [if_neg h']; exact R.own j x q'
  · rcases ne j _ q with ⟨hj, h'⟩ | ⟨h', q'⟩
    · cases h'
    · rw [if_neg h']; exact R.bor j x q'
/-- slots that hold nothing kept may be forgotten -/
theorem Rl.sub_env (R : Rl K b σ H ρ F ad) {σ' : St} {ρ' : Env} (hl : ρ'.length = σ'.length) (h : ∀ (i : Nat) s, ρ'[i]? = some s → s = .no ∨ (ρ[i]? = some s ∧ ∀ v, σ[i]? = some (some v) → σ'[i]? = some (some v))) : Rl K b σ' H ρ' F ad := by
  refine { sub := R.sub, f0 := R.f0, fd := R.fd, old := R.old, dom := R.dom, len := hl, val := fun j x q => ?_, cel := fun j t x q ct => ?_, inj := fun j k t u x y q1 q2 t1 t2 z => ?_, own := fun j x q => ?_, bor := fun j x q => ?_ }
  · rcases h j _ q with h | ⟨h1, h2⟩
    · cases h
    · obtain ⟨v, e1, e2⟩ := R.val j x h1
      exact ⟨v, h2 v e1, e2⟩
  · rcases h j _ q with h | ⟨h1, h2⟩
    · subst h; cases ct
    · obtain ⟨q1, q2, q3⟩ := R.cel j t x h1 ct
      exact ⟨h2 _ q1, q2, q3⟩
  · rcases h j _ q1 with h1 | ⟨h1, _⟩
    · subst h1; cases t1
    · rcases h k _ q2 with h2 | ⟨h2, _⟩
      · subst h2; cases t2
      · exact R.inj j k t u x y h1 h2 t1 t2 z
  · rcases h j _ q with h | ⟨h1, h2⟩
    · cases h
    · exact R.own j x h1
  · rcases h j _ q with h | ⟨h1, h2⟩
    · cases h
    · exact R.bor j x h1
end
end Z

set_option linter.all false
set_option autoImplicit false
set_option Elab.async false
set_option maxRecDepth 100000
/-! Z, part 3: what the evaluator says is what the machine does: expressions. -/
namespace Z
open PySem PySem.Spec PyProof.Rows L2

/-! ### another base: what stands is kept -/
open Classical in
noncomputable def Bs.at (b : Bs) (H : Hp) (ρ : Env) (F : Hp) (ad : Nat → Addr) : Bs :=
  ⟨fun a => if ∃ (i : Nat) (s : Sl) (d : D), ρ[i]? = some s ∧ s.cell = some d ∧ ad i = a then b.H0 a else H a, F, b.bo⟩
section
variable {K : Frag} {b : Bs} {σ : St} {H H' : Hp} {ρ ρ' : Env} {F F' : Hp} {ad : Nat → Addr}
theorem at_none {a : Addr} (R : Rl K b σ H ρ F ad) (h : (b.at H ρ F ad).H0 a = none) : b.H0 a = none := by
  unfold Bs.at at h
  dsimp only at h
  split at h
  · exact h
  · exact R.dom a h
theorem at_some {a : Addr} {o : HO} (R : Rl K b σ H ρ F ad) (h : b.H0 a = some o) (n : b.bo ≠ some a) : (b.at H ρ F ad).H0 a = some o := by
  unfold Bs.at
  dsimp only
  split
  · exact h
  · exact R.old a o h n
theorem Rl.rebase (R : Rl K b σ H ρ F ad) : Rl K (b.at H ρ F ad) σ H ρ F ad where
  sub := R.sub
  f0 := Same.refl _
  fd := fun a o e => .inl e
  old := fun a o e n => by
    unfold Bs.at at e
    dsimp only at e
    split at e
    · exact R.old a o e n
    · exact e
  dom := fun a e => by
    unfold Bs.at
    dsimp only
    split
    · exact R.dom a e
    · exact e
  len := R.len
  val := R.val
  cel := R.cel
  inj := R.inj
  own := fun i d e => by
    unfold Bs.at
    dsimp only
    rw [if_pos ⟨i, _, _, e, rfl, rfl⟩]
    exact R.own i d e
  bor := R.bor
theorem Rl.unbase (R : Rl K b σ H ρ F ad) {σ' : St} {ad' : Nat → Addr} (R' : Rl K (b.at H ρ F ad) σ' H' ρ' F' ad') : Rl K b σ' H' ρ' F' ad' where
  sub := R'.sub
  f0 := R.f0.trans R'.f0
  fd := fun a o e => by
    rcases R'.fd a o e with h | h
    · exact R.fd a o h
    · exact .inr (at_none R h)
  old := fun a o e n => R'.old a o (at_some R e n) n
  dom := fun a e => at_none R (R'.dom a e)
  len := R'.len
  val := R'.val
  cel := R'.cel
  inj := R'.inj
  own := fun i d e => at_none R (R'.own i d e)
  bor := R'.bor
/-- an object that is no slot's is kept -/
theorem Rl.temp (R : Rl K b σ H ρ F ad) {σ' : St} {ad' : Nat → Addr} (R' : Rl K (b.at H ρ F ad) σ' H' ρ' F' ad') {p : Addr} {o : HO} (e : H p = some o) (h0 : b.H0 p = none) (hc : ∀ (i : Nat) s d, ρ[i]? = some s → s.cell = some d → ad i ≠ p) (hb : ∀ a, b.bo = some a → ∃ o, b.H0 a = some o) : H' p = some o := by
  refine R'.old p o ?_ fun z => ?_
  · unfold Bs.at
    dsimp only
    rw [if_neg fun ⟨i, s, d, q, c, z⟩ => hc i s d q c z]
    exact e
  · obtain ⟨u, q⟩ := hb p z
    rw [h0] at q; cases q
theorem RvR.unbase (R : Rl K b σ H ρ F ad) {σ' : St} {ad' : Nat → Addr} {v : V} {r : RV} (x : RvR K (b.at H ρ F ad) σ' H' ρ' F' ad' v r) : RvR K b σ' H' ρ' F' ad' v r := by
  cases r with
  | val d => exact x
  | «at» i => exact x
  | new d =>
    obtain ⟨a, e, f, o, c, h0⟩ := x
    exact ⟨a, e, f, o, c, at_none R h0⟩
end

/-! ### readings by the evaluator -/
/-- the caller's object stands -/
def BoOk (b : Bs) : Prop := ∀ a, b.bo = some a → ∃ o, b.H0 a = some o
def tD (K : Frag) (f : Env → Option (RV × Env)) : TE := fun σ H Q => ∃ b ρ F ad r ρ', BoOk b ∧ Rl K b σ H ρ F ad ∧ f ρ = some (r, ρ') ∧
  ∀ v H' F', Rl K b σ H' ρ' F' ad → Same F F' → RvR K b σ H' ρ' F' ad v r → Q v H'
def tDt (K : Frag) (f : Env → Option (Bool × Env)) : TT := fun σ H Q => ∃ b ρ F ad r ρ', BoOk b ∧ Rl K b σ H ρ F ad ∧ f ρ = some (r, ρ') ∧
  ∀ H' F', Rl K b σ H' ρ' F' ad → Same F F' → Q r H'
def tDs (K : Frag) (f : Env → Option (List RV × Env)) : TA := fun σ H Q => ∃ b ρ F ad rs ρ', BoOk b ∧ Rl K b σ H ρ F ad ∧ f ρ = some (rs, ρ') ∧
  ∀ vs H' F', Rl K b σ H' ρ' F' ad → Same F F' → Hds K σ F' vs rs → Q vs H'
theorem _root_.L2.PE.imp {X : Cx} {e : Expr} {t t' : TE} (h : PE X e t) (i : ∀ σ H Q, t' σ H Q → t σ H Q) : PE X e t' := ⟨fun pins s σ H Q I q => h.run pins s σ H Q I (i σ H Q q)⟩
theorem _root_.L2.PT.imp {X : Cx} {e : Expr} {t t' : TT} (h : PT X e t) (i : ∀ σ H Q, t' σ H Q → t σ H Q) : PT X e t' := ⟨fun pins s σ H Q I q => h.run pins s σ H Q I (i σ H Q q)⟩
theorem _root_.L2.PA.imp {X : Cx} {e : List Expr} {t t' : TA} (h : PA X e t) (i : ∀ σ H Q, t' σ H Q → t σ H Q) : PA X e t' := ⟨fun pos pins s σ H Q I q => h.run pos pins s σ H Q I (i σ H Q q)⟩
/-- by what the evaluator says: another reading where it is needed -/
theorem PE.case {X : Cx} {e : Expr} {t : TE} (h : ∀ σ H Q, t σ H Q → ∃ t', PE X e t' ∧ t' σ H Q) : PE X e t := ⟨fun pins s σ H Q I q => by
  obtain ⟨t', h', q'⟩ := h σ H Q q
  exact h'.run pins s σ H Q I q'⟩
theorem PT.case {X : Cx} {e : Expr} {t : TT} (h : ∀ σ H Q, t σ H Q → ∃ t', PT X e t' ∧ t' σ H Q) : PT X e t := ⟨fun pins s σ H Q I q => by
  obtain ⟨t', h', q'⟩ := h σ H Q q
  exact h'.run pins s σ H Q I q'⟩
section
variable {X : Cx} {C : Cf} {b : Bs} {σ : St} {H : Hp} {ρ ρ' : Env} {F : Hp} {ad : Nat → Addr}
/-! ### the post of an operation that leaves the slots -/
def Post (K : Frag) (b : Bs) (σ : St) (H : Hp) (ρ : Env) (F : Hp) (ad : Nat → Addr) (r : RV) (Q : VK) : Prop := ∀ v H' F', Rl K b σ H' ρ F' ad → Same F F' → RvR K b σ H' ρ F' ad v r → Q v H'
variable {K : Frag} {Q : VK}
theorem Post.imm {v : V} {d : D} (R : Rl K b σ H ρ F ad) (h : Post K b σ H ρ F ad (.val d) Q) (r : Rp K F v d) : Q v H := h v H F R (Same.refl _) r
/-- a new object -/
theorem Post.newL {xs : List V} {ds : List D} (R : Rl K b σ H ρ F ad) (h : Post K b σ H ρ F ad (.new (.lst ds)) Q) (r : Rps K F xs ds) : ∀ p, H p = none → Q (.ref p) (upd H p (.lst xs)) := fun p hp =>
  h (.ref p) _ F (R.alloc hp) (Same.refl _) ⟨p, rfl, R.free hp, ⟨xs, upd_same, r⟩, R.celN hp, R.dom p hp⟩
theorem Post.newT {xs : List V} {ds : List D} (R : Rl K b σ H ρ F ad) (h : Post K b σ H ρ F ad (.val (.tup ds)) Q) (r : Rps K F xs ds) : ∀ p, H p = none → Q (.ref p) (upd H p (.tup xs)) := fun p hp => by
  obtain ⟨R', s⟩ := (R.alloc (o := .tup xs) hp).keepNew upd_same (R.free hp) (R.dom p hp) (R.celN hp)
  exact h (.ref p) _ _ R' s (.tup (.of upd_same) (r.mono s))
end
end Z

set_option linter.all false
set_option autoImplicit false
set_option Elab.async false
set_option maxRecDepth 100000
/-! Z, part 3b: dicts whose keys are tuples of ints and of such tuples. -/
namespace Z
open PySem PySem.Spec PyProof.Rows L2
mutual
theorem nk_hash (w w' : World) : ∀ {d : D} {k : NestedKey}, nk d = some k → k.hash w = k.hash w'
  | .int i, k, e => by simp only [nk, Option.some.injEq] at e; subst e; simp only [NestedKey.hash]
  | .tup ds, k, e => by
    simp only [nk] at e
    obtain ⟨l, hl, rfl⟩ := Option.map_eq_some_iff.mp e
    simp only [NestedKey.hash, nks_hash w w' hl]
  | .non, k, e => by simp [nk] at e
  | .bl _, k, e => by simp [nk] at e
  | .str _, k, e => by simp [nk] at e
  | .lst _, k, e => by simp [nk] at e
  | .dic _, k, e => by simp [nk] at e
  | .scr _, k, e => by simp [nk] at e
theorem nks_hash (w w' : World) : ∀ {ds : List D} {l : List NestedKey}, nks ds = some l → NestedKey.hashes w l = NestedKey.hashes w' l
  | [], l, e => by simp only [nks, Option.some.injEq] at e; subst e; simp only [NestedKey.hashes]
  | d :: ds, l, e => by
    simp only [nks] at e
    split at e
    · rename_i k m h1 h2
      cases e
      simp only [NestedKey.hashes, nk_hash w w' h1, nks_hash w w' h2]
    · cases e
end
mutual
theorem nk_eqv : ∀ {d e : D} {k l : NestedKey}, nk d = some k → nk e = some l → D.eqv d e = NestedKey.beq k l
  | .int i, .int j, k, l, h, g => by
    simp only [nk, Option.some.injEq] at h g; subst h g
    simp only [D.eqv, NestedKey.beq]
    by_cases q : i = j <;> simp [q]
  | .int i, .tup es, k, l, h, g => by
    simp only [nk, Option.some.injEq] at h; subst h
    simp only [nk] at g
    obtain ⟨m, _, rfl⟩ := Option.map_eq_some_iff.mp g
    simp [D.eqv, NestedKey.beq]
  | .tup ds, .int j, k, l, h, g => by
    simp only [nk, Option.some.injEq] at g; subst g
    simp only [nk] at h
    obtain ⟨m, _, rfl⟩ := Option.map_eq_some_iff.mp h
    simp [D.eqv, NestedKey.beq]
  | .tup ds, .tup es, k, l, h, g => by
    simp only [nk] at h g
    obtain ⟨m, h1, rfl⟩ := Option.map_eq_some_iff.mp h
    obtain ⟨m2, g1, rfl⟩ := Option.map_eq_some_iff.mp g
    simp only [D.eqv, NestedKey.beq]
    exact nks_eqv h1 g1
  | .non, _, _, _, h, _ => by simp [nk] at h
  | .bl _, _, _, _, h, _ => by simp [nk] at h
  | .str _, _, _, _, h, _ => by simp [nk] at h
  | .lst _, _, _, _, h, _ => by simp [nk] at h
  | .dic _, _, _, _, h, _ => by simp [nk] at h
  | .scr _, _, _, _, h, _ => by simp [nk] at h
  | .int _, .non, _, _, _, h => by simp [nk] at h
  | .int _, .bl _, _, _, _, h => by simp [nk] at h
  | .int _, .str _, _, _, _, h => by simp [nk] at h
  | .int _, .lst _, _, _, _, h => by simp [nk] at h
  | .int _, .dic _, _, _, _, h => by simp [nk] at h
  | .int _, .scr _, _, _, _, h => by simp [nk] at h
  | .tup _, .non, _, _, _, h => by simp [nk] at h
  | .tup _, .bl _, _, _, _, h => by simp [nk] at h
  | .tup _, .str _, _, _, _, h => by simp [nk] at h
  | .tup _, .lst _, _, _, _, h => by simp [nk] at h
  | .tup _, .dic _, _, _, _, h => by simp [nk] at h
  | .tup _, .scr _, _, _, _, h => by simp [nk] at h
theorem nks_eqv : ∀ {ds es : List D} {k l : List NestedKey}, nks ds = some k → nks es = some l → D.eqvs ds es = NestedKey.beqAll k l
  | [], [], k, l, h, g => by
    simp only [nks, Option.some.injEq] at h g; subst h g
    simp [D.eqvs, NestedKey.beqAll]
  | [], e :: es, k, l, h, g => by
    simp only [nks, Option.some.injEq] at h; subst h
    simp only [nks] at g
    split at g
    · cases g; simp [D.eqvs, NestedKey.beqAll]
    · cases g
  | d :: ds, [], k, l, h, g => by
    simp only [nks, Option.some.injEq] at g; subst g
    simp only [nks] at h
    split at h
    · cases h; simp [D.eqvs, NestedKey.beqAll]
    · cases h
  | d :: ds, e :: es, k, l, h, g => by
    simp only [nks] at h g
    split at h
    · rename_i k1 l1 h1 h2
      cases h
      split at g
      · rename_i k2 l2 g1 g2
        cases g
        simp only [D.eqvs, NestedKey.beqAll, nk_eqv h1 g1, nks_eqv h2 g2]
      · cases g
    · cases h
end
theorem nkT_nk {d : D} {k : NestedKey} (h : nkT d = some k) : nk d = some k ∧ k.depth ≤ 8 := by
  unfold nkT at h
  split at h
  · split at h
    · rename_i l hl
      split at h
      · rename_i hd
        cases h
        simp only [nk, hl, Option.map_some, NestedKey.depth, true_and]
        omega
      · cases h
    · cases h
  · cases h
theorem nkT_eqv {d e : D} {k l : NestedKey} (h : nkT d = some k) (g : nkT e = some l) : D.eqv d e = decide (k = l) := by
  rw [nk_eqv (nkT_nk h).1 (nkT_nk g).1, NestedKey.decide_eq]
section
variable {X : Cx} {pins : List (Addr × Obj)} {σ : St} {F H : Hp} {s : Shared}
mutual
theorem nested_of (I : Inv X pins σ H s) (sub : Same F H) : ∀ {d : D} {k : NestedKey} {v : V} {u : Value}, nk d = some k → Rp X.K F v d → RelV v u → NestedIs s.heap k u
  | .int i, k, v, u, e, r, rv => by
    simp only [nk, Option.some.injEq] at e; subst e
    cases r
    obtain ⟨t, rfl⟩ := rv
    exact .int _ _
  | .tup ds, k, v, u, e, r, rv => by
    simp only [nk] at e
    obtain ⟨l, hl, rfl⟩ := Option.map_eq_some_iff.mp e
    cases r with
    | tup q r =>
      obtain ⟨its, rx, ⟨o, ho, hc, n, hd⟩, _⟩ := I.tuple (Same.seqT sub q)
      obtain rfl := rv
      refine .tup ho hc hd ?_
      exact nesteds_of I sub hl r rx
  | .non, _, _, _, h, _, _ => by simp [nk] at h
  | .bl _, _, _, _, h, _, _ => by simp [nk] at h
  | .str _, _, _, _, h, _, _ => by simp [nk] at h
  | .lst _, _, _, _, h, _, _ => by simp [nk] at h
  | .dic _, _, _, _, h, _, _ => by simp [nk] at h
  | .scr _, _, _, _, h, _, _ => by simp [nk] at h
theorem nesteds_of (I : Inv X pins σ H s) (sub : Same F H) : ∀ {ds : List D} {l : List NestedKey} {vs : List V} {us : List Value}, nks ds = some l → Rps X.K F vs ds → Vals vs us → NestedAll s.heap l us
  | [], l, vs, us, e, r, rv => by
    simp only [nks, Option.some.injEq] at e; subst e
    cases r; cases rv
    exact .nil
  | d :: ds, l, vs, us, e, r, rv => by
    simp only [nks] at e
    split at e
    · rename_i k m h1 h2
      cases e
      cases r with
      | cons r1 r2 =>
        cases rv with
        | cons v1 v2 => exact .cons (nested_of I sub h1 r1 v1) (nesteds_of I sub h2 r2 v2)
    · cases e
end
theorem nkT_is (I : Inv X pins σ H s) (sub : Same F H) {d : D} {k : NestedKey} {b : Addr} (e : nkT d = some k) (r : Rp X.K F (.ref b) d) : (nestedKind X.prog X.w).is s.heap k b :=
  ⟨nested_of I sub (nkT_nk e).1 r rfl, (nkT_nk e).2⟩
theorem NRps.mem {K : Frag} {F : Hp} : ∀ {ds : List (D × D)} {kvs : List NE}, NRps K F kvs ds → ∀ p ∈ kvs, ∃ q, nkT q = some p.1 ∧ Rp K F (.ref p.2.1) q
  | [], _, .nil => fun p hp => by cases hp
  | _ :: ds, _, .cons e k q r => fun p hp => by
    rcases List.mem_cons.mp hp with rfl | hp
    · exact ⟨_, e, k⟩
    · exact NRps.mem r p hp
theorem NRps.length {K : Frag} {F : Hp} : ∀ {ds : List (D × D)} {kvs : List NE}, NRps K F kvs ds → kvs.length = ds.length
  | [], _, .nil => rfl
  | _ :: _, _, .cons _ _ _ r => congrArg Nat.succ (NRps.length r)
theorem NEs.mem : ∀ {kvs : List NE} {us : List (NestedKey × Addr × Value)}, NEs kvs us → ∀ q ∈ us, ∃ p ∈ kvs, p.1 = q.1 ∧ p.2.1 = q.2.1
  | _, _, .nil => fun q hq => by cases hq
  | _, _, .cons h t => fun q hq => by
    rcases List.mem_cons.mp hq with rfl | hq
    · exact ⟨_, List.mem_cons_self, h.1, h.2.1⟩
    · obtain ⟨p, hp, e⟩ := NEs.mem t q hq
      exact ⟨p, List.mem_cons_of_mem _ hp, e⟩
theorem NEs.keys : ∀ {kvs : List NE} {us : List (NestedKey × Addr × Value)}, NEs kvs us → us.map (·.1) = kvs.map (·.1)
  | _, _, .nil => rfl
  | _, _, .cons h t => by rw [List.map_cons, List.map_cons, NEs.keys t, h.1]
theorem neOf_kind {w w' : World} {prog : Program} {kvs : List NE} {us : List (NestedKey × Addr × Value)} (n : NEs kvs us) (hk : ∀ p ∈ kvs, ∃ q, nkT q = some p.1) : us.map (neOf w') = us.map (entryOfKey (nestedKind prog w)) := by
  refine List.map_congr_left fun q hq => ?_
  obtain ⟨p, hp, e1, _⟩ := n.mem q hq
  obtain ⟨d, hd⟩ := hk p hp
  show (⟨q.1.hash w', .ref q.2.1, q.2.2⟩ : DictEntry) = ⟨q.1.hash w, .ref q.2.1, q.2.2⟩
  rw [← e1, nk_hash w' w (nkT_nk hd).1]
theorem dN_get (I : Inv X pins σ H s) {a : Addr} {od : Obj} {kvs : List NE} (h : H a = some (dN a od kvs)) : s.heap.get? a = some od ∧ DNp od a kvs := (I.hok a _ h).1
theorem dN_of (I : Inv X pins σ H s) (sub : Same F H) {a : Addr} {od : Obj} {kvs : List NE} {ds : List (D × D)} (h : H a = some (dN a od kvs)) (r : NRps X.K F kvs ds) :
    ∃ us, NEs kvs us ∧ s.heap.DictOfH (nestedKind X.prog X.w) a us ∧ kvs.length ≤ sizeLine ∧ (a == sysModules) = false := by
  obtain ⟨hg, w, us, es, ep, hl, hs, hn, hc, hd, he, hnd⟩ := dN_get I h
  refine ⟨us, hn, ⟨od, es, ep, hg, hc, hd, ?_, fun x hx => ?_, ?_⟩, hl, hs⟩
  · rw [he]
    exact neOf_kind hn fun p hp => let ⟨q, e, _⟩ := r.mem p hp; ⟨q, e⟩
  · obtain ⟨p, hp, e1, e2⟩ := hn.mem x hx
    obtain ⟨q, e, k⟩ := r.mem p hp
    rw [← e1, ← e2]
    exact nkT_is I sub e k
  · rw [hn.keys]; exact hnd
/-- a dict object of the machine is one of these -/
theorem dN_ok {P : Program} {w : World} {H : Hp} {h : Heap} {a : Addr} {kvs : List NE} {us : List (NestedKey × Addr × Value)} (hd : h.DictOfH (nestedKind P w) a us) (hn : NEs kvs us) (hl : kvs.length ≤ sizeLine) (hs : (a == sysModules) = false) :
    ∃ od, ObjOk P w H h a (dN a od kvs) := by
  obtain ⟨od, es, ep, ho, hc, hdat, he, hk, hnd⟩ := hd
  refine ⟨od, ⟨ho, w, us, es, ep, hl, hs, hn, hc, hdat, he, by rw [← hn.keys]; exact hnd⟩, ⟨od, ho⟩, fun h1 h2 g k => ⟨k _ g.1, g.2⟩⟩
/-- lookups -/
theorem NRps.find {K : Frag} {F : Hp} {q : D} {k : NestedKey} (hq : nkT q = some k) : ∀ {ds : List (D × D)} {kvs : List NE}, NRps K F kvs ds →
    match dget ds q with
    | some d => ∃ b v, kvs.find? (fun p => decide (p.1 = k)) = some (k, b, v) ∧ Rp K F v d
    | none => kvs.find? (fun p => decide (p.1 = k)) = none
  | [], _, .nil => rfl
  | (q', d) :: ds, _, .cons (k := k') (b := b) (v := v) e rk rv r => by
    unfold dget
    rw [nkT_eqv e hq, List.find?_cons]
    by_cases z : k' = k
    · subst z
      simp only [decide_true, if_true]
      exact ⟨b, v, rfl, rv⟩
    · simp only [z, decide_false, Bool.false_eq_true, if_false]
      exact NRps.find hq r
theorem NEs.find {f : NestedKey → Bool} : ∀ {kvs : List NE} {us : List (NestedKey × Addr × Value)}, NEs kvs us →
    (∀ p, kvs.find? (fun p => f p.1) = some p → ∃ q, us.find? (fun q => f q.1) = some q ∧ p.1 = q.1 ∧ p.2.1 = q.2.1 ∧ RelV p.2.2 q.2.2) ∧ (kvs.find? (fun p => f p.1) = none → us.find? (fun q => f q.1) = none)
  | _, _, .nil => ⟨fun p h => by simp at h, fun _ => rfl⟩
  | _, _, .cons (a := a) (b := b) h t => by
    rw [List.find?_cons, List.find?_cons, h.1]
    by_cases z : f b.1 = true
    · rw [z]
      refine ⟨fun p e => ?_, fun e => by cases e⟩
      cases e
      exact ⟨_, rfl, h⟩
    · simp only [Bool.not_eq_true] at z
      rw [z]
      exact NEs.find t
end
theorem dget_no {K : Frag} {F : Hp} {q : D} (hq : nkT q = none) (hn : ∀ ds, D.eqv (.tup ds) q = false) : ∀ {ds : List (D × D)} {kvs : List NE}, NRps K F kvs ds → dget ds q = none
  | [], _, .nil => rfl
  | (.tup xs, d) :: ds, _, .cons e rk rv r => by
    unfold dget
    rw [hn xs]
    exact dget_no hq hn r
  | (.int _, _) :: _, _, .cons e _ _ _ => by simp [nkT] at e
  | (.str _, _) :: _, _, .cons e _ _ _ => by simp [nkT] at e
  | (.non, _) :: _, _, .cons e _ _ _ => by simp [nkT] at e
  | (.bl _, _) :: _, _, .cons e _ _ _ => by simp [nkT] at e
  | (.lst _, _) :: _, _, .cons e _ _ _ => by simp [nkT] at e
  | (.dic _, _) :: _, _, .cons e _ _ _ => by simp [nkT] at e
  | (.scr _, _) :: _, _, .cons e _ _ _ => by simp [nkT] at e
theorem keyed_of {K : Frag} {F : Hp} : ∀ {ds : List (D × D)} {kvs : List NE}, NRps K F kvs ds → keyed ds = true
  | [], _, .nil => rfl
  | _ :: _, _, .cons e _ _ r => by
    unfold keyed
    rw [List.all_cons, e]
    exact keyed_of r
/-! ### a dict of such keys, or an empty one -/
def AtN (K : Frag) (F H : Hp) (a : Addr) (kvs : List NE) (ds : List (D × D)) : Prop := NRps K F kvs ds ∧ ((∃ od, H a = some (dN a od kvs)) ∨ (H a = some (.dK []) ∧ kvs = []))
theorem nkT_kD (k : Key) : nkT (kD k) = none := by cases k <;> rfl
theorem atN_of {K : Frag} {F H : Hp} {v : V} {ds : List (D × D)} (h : Lk K F H v (.dic ds)) (hk : keyed ds = true) : ∃ a kvs, v = .ref a ∧ AtN K F H a kvs ds := by
  rcases h with ⟨a, xs, rfl, q, r⟩ | ⟨a, od, xs, rfl, q, r⟩
  · cases r with
    | nil => exact ⟨a, [], rfl, .nil, .inr ⟨q, rfl⟩⟩
    | cons r1 r2 =>
      unfold keyed at hk
      rw [List.all_cons, nkT_kD] at hk
      cases hk
  · exact ⟨a, xs, rfl, r, .inl ⟨od, q⟩⟩
theorem atN_ob {K : Frag} {F H : Hp} {a : Addr} {ds : List (D × D)} (h : Ob K F H a (.dic ds)) (hk : keyed ds = true) : ∃ kvs, AtN K F H a kvs ds := by
  obtain ⟨a', kvs, e, r⟩ := atN_of (Lk.ob h) hk
  cases e
  exact ⟨kvs, r⟩
/-- what a key finds -/
structure DNg (K : Frag) (F H : Hp) (a b : Addr) (kvs : List NE) (ds : List (D × D)) (q : D) (k : NestedKey) : Prop where
  sub : Same F H
  at' : AtN K F H a kvs ds
  key : nkT q = some k
  rp : Rp K F (.ref b) q
theorem nkT_ref {K : Frag} {F : Hp} {v : V} {q : D} {k : NestedKey} (h : nkT q = some k) (r : Rp K F v q) : ∃ b, v = .ref b := by
  cases r with
  | tup => exact ⟨_, rfl⟩
  | _ => simp [nkT] at h
theorem lk_key {K : Frag} {F H : Hp} {v : V} {q : D} {k : NestedKey} (h : nkT q = some k) (r : Lk K F H v q) : ∃ b, v = .ref b ∧ Rp K F (.ref b) q := by
  cases q with
  | tup ks =>
    obtain ⟨c, us, rfl, q1, q2⟩ := r
    exact ⟨c, rfl, .tup q1 q2⟩
  | _ => simp [nkT] at h
section
variable {X : Cx} {pins : List (Addr × Obj)} {σ : St} {F H : Hp} {s : Shared}
theorem atN_dict (I : Inv X pins σ H s) (sub : Same F H) {a : Addr} {kvs : List NE} {ds : List (D × D)} (h : AtN X.K F H a kvs ds) :
    ∃ us, NEs kvs us ∧ s.heap.DictOfH (nestedKind X.prog X.w) a us ∧ kvs.length ≤ sizeLine ∧ (a == sysModules) = false := by
  obtain ⟨r, ⟨od, ha⟩ | ⟨ha, rfl⟩⟩ := h
  · exact dN_of I sub ha r
  · obtain ⟨z, hd, vs, rel, o, es, ep, ho, hc, hdat, hk, hp, hn⟩ := dk_rd I.hok (.inl ha)
    cases rel
    have he : es.toList = [] := List.eq_nil_of_length_eq_zero (by rw [hp.length]; rfl)
    exact ⟨[], .nil, ⟨o, es, ep, ho, hc, hdat, by rw [he]; rfl, fun x hx => (by cases hx), List.nodup_nil⟩, Nat.zero_le _, hd⟩
theorem atN_mut {a : Addr} {kvs : List NE} {ds : List (D × D)} (h : AtN X.K F H a kvs ds) : Mut (H a) := by
  obtain ⟨r, ⟨od, ha⟩ | ⟨ha, rfl⟩⟩ := h
  · rw [ha]; exact True.intro
  · rw [ha]; exact True.intro
theorem dn_look (I : Inv X pins σ H s) {a b : Addr} {kvs : List NE} {ds : List (D × D)} {q : D} {k : NestedKey} (g : DNg X.K F H a b kvs ds q k) :
    ∃ us, NEs kvs us ∧ s.heap.DictOfH (nestedKind X.prog X.w) a us ∧ (nestedKind X.prog X.w).is s.heap k b ∧ kvs.length ≤ sizeLine ∧ (a == sysModules) = false ∧
      (atKey us k).isSome = (dget ds q).isSome ∧ (∀ b' v, kvs.find? (fun p => decide (p.1 = k)) = some (k, b', v) → ∃ p, atKey us k = some p ∧ RelV v p.2) := by
  obtain ⟨us, hn, hd, hl, hs⟩ := atN_dict I g.sub g.at'
  have h1 := g.at'.1.find g.key
  have h2 := NEs.find (f := fun z => decide (z = k)) hn
  refine ⟨us, hn, hd, nkT_is I g.sub g.key g.rp, hl, hs, ?_, fun b' v e => ?_⟩
  · cases e : dget ds q with
    | none =>
      rw [e] at h1
      unfold atKey
      rw [h2.2 h1]
      rfl
    | some d =>
      rw [e] at h1
      obtain ⟨b', v, e1, rv⟩ := h1
      obtain ⟨p, e2, _, _, e3⟩ := h2.1 _ e1
      unfold atKey
      rw [e2]
      rfl
  · obtain ⟨p, e2, _, _, e3⟩ := h2.1 _ e
    exact ⟨p.2, by unfold atKey; rw [e2]; rfl, e3⟩
end
section
variable {X : Cx}
def rInN (K : Frag) (neg : Bool) : R2 := fun x y H Q => ∃ F a b kvs ds q k, y = .ref a ∧ x = .ref b ∧ DNg K F H a b kvs ds q k ∧ Q (.bl ((dget ds q).isSome != neg)) H
theorem op_inN (hu : X.A.units + 9 < cLine) : OpR X (compareOp .In) (rInN X.K false) := by
  intro pins s σ H x y v u Q I rx ry h
  obtain ⟨F, a, b, kvs, ds, q, k, rfl, rfl, g, hq⟩ := h
  obtain ⟨us, _, hd, hk, _, hs, hl, _⟩ := dn_look I g
  obtain rfl := rx; obtain rfl := ry
  refine wpAny_in_heap (knd := nestedKind X.prog X.w) (show X.A.units + 1 + 8 < cLine by omega) hk hs hd ?_
  rw [hl]
  refine ⟨.bl _, H, I.tok _, rfl, ?_⟩
  simpa using hq
theorem op_notInN (hu : X.A.units + 9 < cLine) : OpR X (compareOp .NotIn) (rInN X.K true) := by
  intro pins s σ H x y v u Q I rx ry h
  obtain ⟨F, a, b, kvs, ds, q, k, rfl, rfl, g, hq⟩ := h
  obtain ⟨us, _, hd, hk, _, hs, hl, _⟩ := dn_look I g
  obtain rfl := rx; obtain rfl := ry
  refine wpAny_notIn_heap (knd := nestedKind X.prog X.w) (show X.A.units + 1 + 8 < cLine by omega) hk hs hd ?_
  rw [hl]
  refine ⟨.bl _, H, I.tok _, rfl, ?_⟩
  simpa using hq
/-- d[k] -/
def rIxN (K : Frag) : R2 := fun x y H Q => ∃ F a b kvs ds q k b' v, x = .ref a ∧ y = .ref b ∧ DNg K F H a b kvs ds q k ∧ kvs.find? (fun p => decide (p.1 = k)) = some (k, b', v) ∧ Q v H
theorem ix_dN (hu : X.A.units + 9 < cLine) : IxR X (rIxN X.K) := by
  intro value slice pins s σ H x y v u Q I rx ry h hs
  obtain ⟨F, a, b, kvs, ds, q, k, b', w, rfl, rfl, g, e, hq⟩ := h
  obtain ⟨us, _, hd, hk, _, _, _, hl⟩ := dn_look I g
  obtain ⟨p, hp, rp⟩ := hl _ _ e
  obtain rfl := rx; obtain rfl := ry
  exact tail_any hd.typeIs slot_dict_getitem.lookup (wpAny_getItem_heap (knd := nestedKind X.prog X.w) (show X.A.units + 1 + 8 < cLine by omega) hk hd hp ⟨w, H, I.tok _, rp, hq⟩) hs
/-- d[k] = v -/
def putE (kvs : List NE) (k : NestedKey) (b : Addr) (v : V) : List NE := if (kvs.any fun p => decide (p.1 = k)) = true then kvs.map (fun p => if p.1 = k then (p.1, p.2.1, v) else p) else kvs ++ [(k, b, v)]
theorem putE_len (kvs : List NE) (k : NestedKey) (b : Addr) (v : V) : (putE kvs k b v).length ≤ kvs.length + 1 := by
  unfold putE
  split
  · rw [List.length_map]; omega
  · rw [List.length_append]; exact Nat.le_refl _
theorem NEs.map {f : NE → NE} {g : NestedKey × Addr × Value → NestedKey × Addr × Value} (h : ∀ p q, p.1 = q.1 ∧ p.2.1 = q.2.1 ∧ RelV p.2.2 q.2.2 → (f p).1 = (g q).1 ∧ (f p).2.1 = (g q).2.1 ∧ RelV (f p).2.2 (g q).2.2) : ∀ {kvs : List NE} {us : List (NestedKey × Addr × Value)}, NEs kvs us → NEs (kvs.map f) (us.map g)
  | _, _, .nil => .nil
  | _, _, .cons r t => .cons (h _ _ r) (NEs.map h t)
theorem NEs.app : ∀ {kvs kvs' : List NE} {us us' : List (NestedKey × Addr × Value)}, NEs kvs us → NEs kvs' us' → NEs (kvs ++ kvs') (us ++ us')
  | _, _, _, _, .nil, s => s
  | _, _, _, _, .cons r t, s => .cons r (NEs.app t s)
theorem any_find (k : NestedKey) : ∀ kvs : List NE, (kvs.any fun p => decide (p.1 = k)) = (kvs.find? fun p => decide (p.1 = k)).isSome
  | [] => rfl
  | p :: r => by
    rw [List.any_cons, List.find?_cons, any_find k r]
    by_cases z : p.1 = k <;> simp [z]
theorem NEs.put {kvs : List NE} {us : List (NestedKey × Addr × Value)} {k : NestedKey} {b : Addr} {v : V} {u : Value} (n : NEs kvs us) (rv : RelV v u) : NEs (putE kvs k b v) (storedH us k b u) := by
  have h2 := NEs.find (f := fun z => decide (z = k)) n
  have e : (kvs.any fun p => decide (p.1 = k)) = (atKey us k).isSome := by
    rw [any_find]
    unfold atKey
    rw [Option.isSome_map]
    cases c : kvs.find? (fun p => decide (p.1 = k)) with
    | none => rw [h2.2 c]; rfl
    | some p => obtain ⟨q, e, _⟩ := h2.1 _ c; rw [e]; rfl
  unfold putE storedH
  rw [e]
  split
  · refine n.map fun p q r => ?_
    unfold putAt
    rw [r.1]
    split
    · exact ⟨rfl, r.2.1, rv⟩
    · exact r
  · exact n.app (.cons ⟨rfl, rfl, rv⟩ .nil)
theorem NRps.app {K : Frag} {F : Hp} : ∀ {ds ds' : List (D × D)} {kvs kvs' : List NE}, NRps K F kvs ds → NRps K F kvs' ds' → NRps K F (kvs ++ kvs') (ds ++ ds')
  | [], _, _, _, .nil, s => s
  | _ :: _, _, _, _, .cons a b c t, s => .cons a b c (NRps.app t s)
theorem NRps.put {K : Frag} {F : Hp} {q d : D} {k : NestedKey} {b : Addr} {v : V} (hq : nkT q = some k) (rb : Rp K F (.ref b) q) (rv : Rp K F v d) {ds : List (D × D)} {kvs : List NE} (r : NRps K F kvs ds) : NRps K F (putE kvs k b v) (dput ds q d) := by
  have hany : ∀ {ds : List (D × D)} {kvs : List NE}, NRps K F kvs ds → (ds.any fun p => D.eqv p.1 q) = kvs.any fun p => decide (p.1 = k) := fun {ds kvs} r => by
    induction ds generalizing kvs with
    | nil => cases r; rfl
    | cons p ds ih =>
      cases r with
      | cons e _ _ t =>
        rw [List.any_cons, List.any_cons, ih t]
        dsimp only
        rw [nkT_eqv e hq]
  unfold putE dput
  rw [hany r]
  split
  · have go : ∀ {ds : List (D × D)} {kvs : List NE}, NRps K F kvs ds → NRps K F (kvs.map fun p => if p.1 = k then (p.1, p.2.1, v) else p) (ds.map fun p => if D.eqv p.1 q = true then (p.1, d) else p) := fun {ds kvs} r => by
      induction ds generalizing kvs with
      | nil => cases r; exact .nil
      | cons p ds ih =>
        cases r with
        | cons e rk r2 t =>
          rw [List.map_cons, List.map_cons]
          dsimp only
          rw [nkT_eqv e hq]
          split
          · rename_i z
            rw [if_pos (decide_eq_true z)]
            exact .cons e rk rv (ih t)
          · rename_i z
            rw [if_neg (by simpa using z)]
            exact .cons e rk r2 (ih t)
    exact go r
  · exact r.app (.cons hq rb rv .nil)
def rSetN (K : Frag) : TSet := fun o i v H Q => ∃ F a b kvs ds q k, o = .ref a ∧ i = .ref b ∧ DNg K F H a b kvs ds q k ∧ kvs.length < sizeLine ∧ ∀ od, Q (upd H a (dN a od (putE kvs k b v)))
theorem dN_write {pins : List (Addr × Obj)} {σ : St} {H : Hp} {s : Shared} (I : Inv X pins σ H s) {a : Addr} {h' : Heap} {t' : Nat} {kvs : List NE} {us : List (NestedKey × Addr × Value)} (mu : Mut (H a)) (dd : h'.DictOfH (nestedKind X.prog X.w) a us) (hs : Heap.SameBut a s.heap h') (hn : NEs kvs us) (hl : kvs.length ≤ sizeLine) (hsy : (a == sysModules) = false) :
    ∃ od, Inv X pins σ (upd H a (dN a od kvs)) { s with heap := h', toks := t' } := by
  obtain ⟨od, ok⟩ := dN_ok (H := H) dd hn hl hsy
  refine ⟨od, d_write I mu hs ⟨od, ok.1.1⟩ ⟨ok.1, ok.2⟩⟩
theorem set_dN (hu : X.A.units + 9 < cLine) : PSet X (rSetN X.K) := by
  intro pins s σ H o i v ov iv u Q I ro ri rv h
  obtain ⟨F, a, b, kvs, ds, q, k, rfl, rfl, g, hlt, hq⟩ := h
  obtain ⟨us, hn, hd, hk, hl, hs, _, _⟩ := dn_look I g
  obtain rfl := ro; obtain rfl := ri
  have e1 : us.length = kvs.length := by have := congrArg List.length hn.keys; simpa using this
  refine wpAny_setItem_heap (knd := nestedKind X.prog X.w) (hsz := by rw [e1]; exact hl) (show X.A.units + 1 + 8 < cLine by omega) hk hd fun h' dd' hs' => ?_
  obtain ⟨od, I2⟩ := dN_write (t' := s.toks + (nestedKind X.prog X.w).draws k) I (atN_mut g.at') dd' hs' (hn.put rv) (by have := putE_len kvs k b v; omega) hs
  exact ⟨_, I2, hq od⟩
/-- d[k] = v, k an int or a text, d empty -/
theorem set_dE : PSet X (fun o i v H Q => ∃ a od k, o = .ref a ∧ i = kV k ∧ H a = some (dN a od []) ∧ Q (upd H a (.dK [(k, v)]))) := by
  intro pins s σ H o i v ov iv u Q I ro ri rv h
  obtain ⟨a, od, k, rfl, rfl, ha, q⟩ := h
  obtain rfl := ro
  obtain ⟨hg, w, us, es, ep, _, hs, hn, hx, hd, he, _⟩ := dN_get I ha
  cases hn
  have he : es = #[] := Array.toList_eq_nil_iff.mp he
  subst he
  have dd : s.heap.DictOf (mixKind X.prog X.w) a [] := ⟨od, #[], ep, hg, hx, hd, fun e he => (by simp at he), .nil, List.nodup_nil⟩
  refine wpAny_setItem_pairs (hsz := Nat.zero_le _) (kV_is ri) dd fun h' dd' hs' => ⟨_, d_write I (by rw [ha]; exact True.intro) hs' (let ⟨q, _, _, hq, _⟩ := dd'; ⟨q, hq⟩) (dk_new (kvs := [(k, v)]) (show 1 ≤ sizeLine by decide) hs (.cons ⟨rfl, rv⟩ .nil) dd'), q⟩
/-- len(d) -/
theorem call_lenN : CallR X (.builtin "len") (fun xs H Q => ∃ F a kvs ds, xs = [V.ref a] ∧ Same F H ∧ AtN X.K F H a kvs ds ∧ Q (.int kvs.length) H) := by
  intro pins s σ H xs us Q I r h
  obtain ⟨F, a, kvs, ds, rfl, sub, g, q⟩ := h
  obtain ⟨u, rfl, ru⟩ := vals1 r
  obtain rfl := ru
  obtain ⟨us, hn, hd, hl, hs⟩ := atN_dict I sub g
  have e1 : us.length = kvs.length := by have := congrArg List.length hn.keys; simpa using this
  refine call_len_dictH (knd := nestedKind X.prog X.w) hs hd ?_ ⟨.int kvs.length, H, I.tok _, ?_, q⟩
  · have h1 : us.length ≤ sizeLine := by rw [e1]; exact hl
    have h2 : sizeLine < 2 ^ 62 := by decide
    have h3 : ((us.length : Nat) : Int) < ((2 ^ 62 : Nat) : Int) := by exact_mod_cast Nat.lt_of_le_of_lt h1 h2
    have h4 : ((2 ^ 62 : Nat) : Int) < 2 ^ 63 := by decide
    exact Int.lt_trans h3 h4
  · rw [e1]; exact ⟨_, rfl⟩
end
end Z

set_option linter.all false
set_option autoImplicit false
set_option Elab.async false
set_option maxRecDepth 100000
/-! Z, part 3c: data of one shape: order, sorting. -/
namespace Z
open PySem PySem.Spec PyProof.Rows L2
open PySem.W (alike alikeAll dataLt)
def Sh.dep : Sh → Nat
  | .int => 0
  | .str => 0
  | .sq t => t.dep + 1
  | .ls t => t.dep + 1
  | .pr a b => max a.dep b.dep + 1
  | .tr a b c => max a.dep (max b.dep c.dep) + 1
def depS : List Sh → Nat
  | [] => 0
  | t :: ts => max t.dep (depS ts)
mutual
theorem sh_dp {K : Frag} {H : Hp} : ∀ {d : D} {t : Sh} {v : V}, D.isSh d t = true → Rp K H v d → Dp K H v d.py ∧ d.py.depth ≤ t.dep
  | .int _, .int, _, _, .int _ => by rw [D.py]; exact ⟨.int _, by simp [PyData.depth]⟩
  | .str _, .str, _, _, .str _ => by rw [D.py]; exact ⟨.str _, by simp [PyData.depth]⟩
  | .tup ds, .sq t, _, h, .tup q r => by
    rw [D.py]
    rw [D.isSh] at h
    obtain ⟨h1, h2⟩ := shs_dp h r
    refine ⟨.tup q h1, ?_⟩
    rw [PyData.depth, Sh.dep]
    omega
  | .lst ds, .ls t, _, h, .lst q r => by
    rw [D.py]
    rw [D.isSh] at h
    obtain ⟨h1, h2⟩ := shs_dp h r
    refine ⟨.lst (.of q) h1, ?_⟩
    rw [PyData.depth, Sh.dep]
    omega
  | .tup ds, .pr a b, _, h, .tup q r => by
    rw [D.py]
    rw [D.isSh] at h
    obtain ⟨h1, h2⟩ := shp_dp h r
    refine ⟨.tup q h1, ?_⟩
    rw [PyData.depth, Sh.dep]
    simp only [depS] at h2
    omega
  | .tup ds, .tr a b c, _, h, .tup q r => by
    rw [D.py]
    rw [D.isSh] at h
    obtain ⟨h1, h2⟩ := shp_dp h r
    refine ⟨.tup q h1, ?_⟩
    rw [PyData.depth, Sh.dep]
    simp only [depS] at h2
    omega
  | .non, t, _, h, _ => by simp [D.isSh] at h
  | .bl _, t, _, h, _ => by simp [D.isSh] at h
  | .dic _, t, _, h, _ => by simp [D.isSh] at h
  | .scr _, t, _, h, _ => by simp [D.isSh] at h
  | .int _, .str, _, h, _ => by simp [D.isSh] at h
  | .int _, .sq _, _, h, _ => by simp [D.isSh] at h
  | .int _, .ls _, _, h, _ => by simp [D.isSh] at h
  | .int _, .pr _ _, _, h, _ => by simp [D.isSh] at h
  | .int _, .tr _ _ _, _, h, _ => by simp [D.isSh] at h
  | .str _, .int, _, h, _ => by simp [D.isSh] at h
  | .str _, .sq _, _, h, _ => by simp [D.isSh] at h
  | .str _, .ls _, _, h, _ => by simp [D.isSh] at h
  | .str _, .pr _ _, _, h, _ => by simp [D.isSh] at h
  | .str _, .tr _ _ _, _, h, _ => by simp [D.isSh] at h
  | .tup _, .int, _, h, _ => by simp [D.isSh] at h
  | .tup _, .str, _, h, _ => by simp [D.isSh] at h
  | .tup _, .ls _, _, h, _ => by simp [D.isSh] at h
  | .lst _, .int, _, h, _ => by simp [D.isSh] at h
  | .lst _, .str, _, h, _ => by simp [D.isSh] at h
  | .lst _, .sq _, _, h, _ => by simp [D.isSh] at h
  | .lst _, .pr _ _, _, h, _ => by simp [D.isSh] at h
  | .lst _, .tr _ _ _, _, h, _ => by simp [D.isSh] at h
theorem shs_dp {K : Frag} {H : Hp} : ∀ {ds : List D} {t : Sh} {vs : List V}, D.allSh ds t = true → Rps K H vs ds → DpAll K H vs (D.pys ds) ∧ PyData.depthAll (D.pys ds) ≤ t.dep
  | [], _, _, _, .nil => by rw [D.pys]; exact ⟨.nil, by simp [PyData.depthAll]⟩
  | d :: ds, t, _, h, .cons q r => by
    rw [D.allSh, Bool.and_eq_true] at h
    rw [D.pys]
    obtain ⟨h1, h2⟩ := sh_dp h.1 q
    obtain ⟨h3, h4⟩ := shs_dp h.2 r
    refine ⟨.cons h1 h3, ?_⟩
    rw [PyData.depthAll]
    omega
theorem shp_dp {K : Frag} {H : Hp} : ∀ {ds : List D} {ts : List Sh} {vs : List V}, D.prSh ds ts = true → Rps K H vs ds → DpAll K H vs (D.pys ds) ∧ PyData.depthAll (D.pys ds) ≤ depS ts
  | [], [], _, _, .nil => by rw [D.pys]; exact ⟨.nil, by simp [PyData.depthAll]⟩
  | d :: ds, t :: ts, _, h, .cons q r => by
    rw [D.prSh, Bool.and_eq_true] at h
    rw [D.pys]
    obtain ⟨h1, h2⟩ := sh_dp h.1 q
    obtain ⟨h3, h4⟩ := shp_dp h.2 r
    refine ⟨.cons h1 h3, ?_⟩
    rw [PyData.depthAll, depS]
    omega
  | [], _ :: _, _, h, _ => by simp [D.prSh] at h
  | _ :: _, [], _, h, _ => by simp [D.prSh] at h
end
mutual
theorem sh_alike : ∀ {d e : D} {t : Sh}, D.isSh d t = true → D.isSh e t = true → alike d.py e.py = true
  | .int _, e, .int, _, h => by
    cases e <;> simp [D.isSh] at h
    simp [D.py, alike]
  | .str _, e, .str, _, h => by
    cases e <;> simp [D.isSh] at h
    simp [D.py, alike]
  | .tup ds, e, .sq t, g, h => by
    cases e <;> simp [D.isSh] at h
    rw [D.isSh] at g
    rw [D.py, D.py, alike]
    exact shs_alike g h
  | .lst ds, e, .ls t, g, h => by
    cases e <;> simp [D.isSh] at h
    rw [D.isSh] at g
    rw [D.py, D.py, alike]
    exact shs_alike g h
  | .tup ds, e, .pr a b, g, h => by
    cases e <;> simp [D.isSh] at h
    rw [D.isSh] at g
    rw [D.py, D.py, alike]
    exact shp_alike g h
  | .tup ds, e, .tr a b c, g, h => by
    cases e <;> simp [D.isSh] at h
    rw [D.isSh] at g
    rw [D.py, D.py, alike]
    exact shp_alike g h
  | .non, _, t, h, _ => by simp [D.isSh] at h
  | .bl _, _, t, h, _ => by simp [D.isSh] at h
  | .dic _, _, t, h, _ => by simp [D.isSh] at h
  | .scr _, _, t, h, _ => by simp [D.isSh] at h
  | .int _, _, .str, h, _ => by simp [D.isSh] at h
  | .int _, _, .sq _, h, _ => by simp [D.isSh] at h
  | .int _, _, .ls _, h, _ => by simp [D.isSh] at h
  | .int _, _, .pr _ _, h, _ => by simp [D.isSh] at h
  | .int _, _, .tr _ _ _, h, _ => by simp [D.isSh] at h
  | .str _, _, .int, h, _ => by simp [D.isSh] at h
  | .str _, _, .sq _, h, _ => by simp [D.isSh] at h
  | .str _, _, .ls _, h, _ => by simp [D.isSh] at h
  | .str _, _, .pr _ _, h, _ => by simp [D.isSh] at h
  | .str _, _, .tr _ _ _, h, _ => by simp [D.isSh] at h
  | .tup _, _, .int, h, _ => by simp [D.isSh] at h
  | .tup _, _, .str, h, _ => by simp [D.isSh] at h
  | .tup _, _, .ls _, h, _ => by simp [D.isSh] at h
  | .lst _, _, .int, h, _ => by simp [D.isSh] at h
  | .lst _, _, .str, h, _ => by simp [D.isSh] at h
  | .lst _, _, .sq _, h, _ => by simp [D.isSh] at h
  | .lst _, _, .pr _ _, h, _ => by simp [D.isSh] at h
  | .lst _, _, .tr _ _ _, h, _ => by simp [D.isSh] at h
theorem shs_alike : ∀ {ds es : List D} {t : Sh}, D.allSh ds t = true → D.allSh es t = true → alikeAll (D.pys ds) (D.pys es) = true
  | [], es, _, _, _ => by rw [D.pys]; simp [alikeAll]
  | _ :: _, [], _, _, _ => by rw [D.pys, D.pys]; simp [alikeAll]
  | d :: ds, e :: es, t, g, h => by
    rw [D.allSh, Bool.and_eq_true] at g h
    rw [D.pys, D.pys, alikeAll, sh_alike g.1 h.1, shs_alike g.2 h.2]
    rfl
theorem shp_alike : ∀ {ds es : List D} {ts : List Sh}, D.prSh ds ts = true → D.prSh es ts = true → alikeAll (D.pys ds) (D.pys es) = true
  | [], es, _, _, _ => by rw [D.pys]; simp [alikeAll]
  | _ :: _, [], _, _, _ => by rw [D.pys, D.pys]; simp [alikeAll]
  | d :: ds, e :: es, [], g, _ => by simp [D.prSh] at g
  | d :: ds, e :: es, t :: ts, g, h => by
    rw [D.prSh, Bool.and_eq_true] at g h
    rw [D.pys, D.pys, alikeAll, sh_alike g.1 h.1, shp_alike g.2 h.2]
    rfl
end
theorem sh_some {d : D} {t : Sh} (h : D.isSh d t = true) : d.py ≠ .none := by
  cases d <;> simp [D.isSh] at h <;> simp [D.py]
theorem SHS_dep : ∀ t ∈ SHS, t.dep ≤ 6 := by decide
theorem alk_of {x y : D} (h : alk x y = true) : ∃ t ∈ SHS, x.isSh t = true ∧ y.isSh t = true := by
  unfold alk at h
  obtain ⟨t, ht, h⟩ := List.any_eq_true.mp h
  rw [Bool.and_eq_true] at h
  exact ⟨t, ht, h⟩
section
variable {X : Cx}
/-- < and its like, by data -/
def rOrd (K : Frag) (f : PyData → PyData → Bool) : R2 := fun x y H Q => ∃ d e, Dp K H x d ∧ Dp K H y e ∧ alike d e = true ∧ d ≠ .none ∧ d.depth ≤ 6 ∧ Q (.bl (f d e)) H
theorem op_ltS (hu : X.A.units + 64 < cLine) : OpR X (compareOp .Lt) (rOrd X.K dataLt) := by
  intro pins s σ H x y v u Q I rx ry ⟨d, e, hd, he, ha, hn, hz, q⟩
  obtain ⟨as, r1⟩ := Dp.reads I d x v hd rx
  obtain ⟨bs, r2⟩ := Dp.reads I e y u he ry
  exact PySem.W.lt_data r1 r2 ha hn (by omega) ⟨.bl _, H, I, rfl, q⟩
theorem op_gtS (hu : X.A.units + 64 < cLine) : OpR X (compareOp .Gt) (rOrd X.K fun d e => dataLt e d) := by
  intro pins s σ H x y v u Q I rx ry ⟨d, e, hd, he, ha, hn, hz, q⟩
  obtain ⟨as, r1⟩ := Dp.reads I d x v hd rx
  obtain ⟨bs, r2⟩ := Dp.reads I e y u he ry
  exact PySem.W.gt_data r1 r2 ha hn (by omega) ⟨.bl _, H, I, rfl, q⟩
theorem op_leS (hu : X.A.units + 64 < cLine) : OpR X (compareOp .LtE) (rOrd X.K fun d e => !dataLt e d) := by
  intro pins s σ H x y v u Q I rx ry ⟨d, e, hd, he, ha, hn, hz, q⟩
  obtain ⟨as, r1⟩ := Dp.reads I d x v hd rx
  obtain ⟨bs, r2⟩ := Dp.reads I e y u he ry
  exact PySem.W.le_data r1 r2 ha hn (by omega) ⟨.bl _, H, I, rfl, q⟩
theorem op_geS (hu : X.A.units + 64 < cLine) : OpR X (compareOp .GtE) (rOrd X.K fun d e => !dataLt d e) := by
  intro pins s σ H x y v u Q I rx ry ⟨d, e, hd, he, ha, hn, hz, q⟩
  obtain ⟨as, r1⟩ := Dp.reads I d x v hd rx
  obtain ⟨bs, r2⟩ := Dp.reads I e y u he ry
  exact PySem.W.ge_data r1 r2 ha hn (by omega) ⟨.bl _, H, I, rfl, q⟩
end
end Z

set_option linter.all false
set_option autoImplicit false
set_option Elab.async false
set_option maxRecDepth 100000
/-! Z, part 3d: sorted. -/
namespace Z
open PySem PySem.Spec PyProof.Rows L2
open PySem.W (EachIs AllAlike Sortable SortsAt sortingHeap copyHeap dataLe dataLt)
theorem okS_of {ds : List D} (h : okS ds = true) : ds.length ≤ 1 ∨ ∃ t ∈ SHS, (∀ d ∈ ds, d.isSh t = true) ∧ ∀ d ∈ ds, d.solid = true := by
  unfold okS at h
  rw [Bool.or_eq_true] at h
  rcases h with h | h
  · exact .inl (of_decide_eq_true h)
  · obtain ⟨t, ht, h⟩ := List.any_eq_true.mp h
    have h := List.all_eq_true.mp h
    refine .inr ⟨t, ht, fun d hd => ?_, fun d hd => ?_⟩
    · have := h d hd; rw [Bool.and_eq_true] at this; exact this.1
    · have := h d hd; rw [Bool.and_eq_true] at this; exact this.2
theorem sh_sortable {ds : List D} {t : Sh} (h1 : ∀ d ∈ ds, d.isSh t = true) (h2 : ∀ d ∈ ds, d.solid = true) : Sortable (ds.map D.py) := by
  by_cases ht : ∃ u, t = .sq u ∨ (∃ v, t = .pr u v) ∨ ∃ v w, t = .tr u v w
  · left
    intro d hd
    obtain ⟨x, hx, rfl⟩ := List.mem_map.mp hd
    have a := h1 x hx
    have b := h2 x hx
    cases x with
    | tup xs =>
      cases xs with
      | nil => simp [D.solid] at b
      | cons y ys => exact ⟨_, _, by rw [D.py, D.pys]⟩
    | int => obtain ⟨u, rfl | ⟨v, rfl⟩ | ⟨v, w, rfl⟩⟩ := ht <;> simp [D.isSh] at a
    | str => obtain ⟨u, rfl | ⟨v, rfl⟩ | ⟨v, w, rfl⟩⟩ := ht <;> simp [D.isSh] at a
    | lst => obtain ⟨u, rfl | ⟨v, rfl⟩ | ⟨v, w, rfl⟩⟩ := ht <;> simp [D.isSh] at a
    | non => simp [D.isSh] at a
    | bl => simp [D.isSh] at a
    | dic => simp [D.isSh] at a
    | scr => simp [D.isSh] at a
  · right
    intro d hd
    obtain ⟨x, hx, rfl⟩ := List.mem_map.mp hd
    have a := h1 x hx
    refine ⟨sh_some a, fun xs e => ?_⟩
    cases x with
    | tup xs =>
      cases t with
      | sq u => exact ht ⟨u, .inl rfl⟩
      | pr u v => exact ht ⟨u, .inr (.inl ⟨v, rfl⟩)⟩
      | tr u v w => exact ht ⟨u, .inr (.inr ⟨v, w, rfl⟩)⟩
      | int => simp [D.isSh] at a
      | str => simp [D.isSh] at a
      | ls => simp [D.isSh] at a
    | _ => simp [D.py] at e
theorem sh_all {ds : List D} {t : Sh} (h1 : ∀ d ∈ ds, d.isSh t = true) : AllAlike (ds.map D.py) := by
  intro d hd d' hd'
  obtain ⟨x, hx, rfl⟩ := List.mem_map.mp hd
  obtain ⟨y, hy, rfl⟩ := List.mem_map.mp hd'
  exact sh_alike (h1 x hx) (h1 y hy)
/-- values of data -/
def Rv (K : Frag) (F : Hp) : Value → D → Prop := fun u d => ∃ v, RelV v u ∧ Rp K F v d
theorem each_of {K : Frag} {F : Hp} : ∀ {xs : List V} {us : List Value} {ds : List D}, Vals xs us → Rps K F xs ds → EachIs (Rv K F) us ds
  | _, _, _, .nil, .nil => .nil
  | _, _, _, .cons r t, .cons q s => .cons ⟨_, r, q⟩ (each_of t s)
theorem of_each {K : Frag} {F : Hp} : ∀ {us : List Value} {ds : List D}, EachIs (Rv K F) us ds → ∃ xs, Vals xs us ∧ Rps K F xs ds
  | _, _, .nil => ⟨[], .nil, .nil⟩
  | _, _, .cons ⟨v, r, q⟩ t => by
    obtain ⟨xs, h1, h2⟩ := of_each t
    exact ⟨v :: xs, .cons r h1, .cons q h2⟩
theorem swo_no {α : Type} : SrtO.Swo (fun (_ _ : α) => false) := ⟨fun _ _ h => (by cases h), fun _ _ _ _ _ => rfl⟩
section
variable {prog : Program} {w : World} {A : Around} {E : Value → Shared → Prop} {s : Shared}
/-- list.sort of a list of data of one shape -/
theorem sort_core {K : Frag} {F : Hp} {h0 : Heap} {a : Addr} {vs : List Value} {ds : List D} {n : Nat} {P : PySem.Fin → Shared → Prop} (ho : s.heap.get? a = some (seqObj "list" vs.toArray n)) (ok : okS ds = true) (e : EachIs (Rv K F) vs ds)
    (er : ∀ t ∈ SHS, (∀ d ∈ ds, d.isSh t = true) → EachIs (fun u (d : D) => ∃ as, Reads h0 u d.py as) vs ds) (dp : ∀ t ∈ SHS, (∀ d ∈ ds, d.isSh t = true) → ∀ d ∈ ds, d.py.depth ≤ 6) (old : ∀ b o, h0.get? b = some o → b ≠ a ∧ s.heap.get? b = some o) (hz : ds.length ≤ sizeLine) (hu : A.units + 8 < cLine)
    (h : ∀ out : List Value, out.length = vs.length → EachIs (Rv K F) out (sortD ds) → P (.done (.ret .none)) { s with heap := sortedHeap s.heap a vs out.toArray }) : wpAny (model prog w) A (Builtin.«list.sort» ⟨[.ref a], []⟩) P E s := by
  rcases okS_of ok with hl | ⟨t, ht, h1, h2⟩
  · refine SrtO.list_sort_ord (ltv := fun _ _ => false) swo_no ho (by rw [e.length]; exact hz) (fun z => by rw [e.length] at z; omega) fun out _ hb => ?_
    have hout : out = vs := by
      have hp := hb.perm
      have hv : vs.length ≤ 1 := by rw [e.length]; exact hl
      match vs, hv, hp with
      | [], _, hp => exact List.Perm.eq_nil hp
      | [x], _, hp => exact List.perm_singleton.mp hp
    subst hout
    refine h out rfl ?_
    have : sortD ds = ds := by
      unfold sortD
      match ds, hl with
      | [], _ => simp
      | [x], _ => exact List.mergeSort_singleton x
    rw [this]
    exact e
  · have er2 : EachIs (fun u (d : D) => ∃ as, Reads (sortingHeap s.heap a vs) u d.py as) vs ds := (er t ht h1).mono fun u d ⟨as, r⟩ => ⟨as, Reads.keeps (fun b o q => PySem.W.sortingHeap_old (old b o q).1 (old b o q).2) r⟩
    have hd : ∀ d ∈ ds, A.units + d.py.depth < cLine := fun d hd => by have := dp t ht h1 d hd; omega
    refine PySem.W.list_sort_vals (κ := PySem.W.dataKind (sortingHeap s.heap a vs) (ds.map D.py)) ho (SortsAt.data (s := { s with heap := sortingHeap s.heap a vs }) (PySem.W.each_map (R := fun v d => ∃ as, Reads (sortingHeap s.heap a vs) v d as) D.py er2) (sh_all h1) (sh_sortable h1 h2) (fun d hd' => ?_)) (by rw [e.length]; exact hz) ?_
    · obtain ⟨x, hx, rfl⟩ := List.mem_map.mp hd'
      exact hd x hx
    · exact h _ (PySem.W.sortVals_length false rfl) (PySem.W.sortVals_data false e er2 (sh_all h1))
end
section
variable {X : Cx}
theorem reads_of {pins : List (Addr × Obj)} {σ : St} {F H : Hp} {s : Shared} (I : Inv X pins σ H s) (sub : Same F H) {us : List Value} : ∀ {ds : List D} {t : Sh} {xs : List V} {us : List Value}, (∀ d ∈ ds, d.isSh t = true) → Vals xs us → Rps X.K F xs ds → EachIs (fun u (d : D) => ∃ as, Reads s.heap u d.py as) us ds
  | _, _, _, _, _, .nil, .nil => .nil
  | d :: ds, t, _, _, h, .cons r1 r2, .cons q1 q2 => .cons (Dp.reads I d.py _ _ (sh_dp (h d List.mem_cons_self) (q1.mono sub)).1 r1) (reads_of (us := us) I sub (fun d hd => h d (List.mem_cons_of_mem _ hd)) r2 q2)
theorem depth_of {K : Frag} {F : Hp} {t : Sh} (ht : t ∈ SHS) : ∀ {ds : List D} {xs : List V}, (∀ d ∈ ds, d.isSh t = true) → Rps K F xs ds → ∀ d ∈ ds, d.py.depth ≤ 6
  | [], _, _, .nil => fun d hd => by cases hd
  | d :: ds, _, h, .cons q1 q2 => fun x hx => by
    rcases List.mem_cons.mp hx with rfl | hx
    · exact Nat.le_trans (sh_dp (h x List.mem_cons_self) q1).2 (SHS_dep t ht)
    · exact depth_of ht (fun d hd => h d (List.mem_cons_of_mem _ hd)) q2 x hx
/-- sorted of a list -/
def rSortD (K : Frag) : List V → Hp → VK → Prop := fun vs H Q => ∃ (F : Hp) (a : Addr) (xs : List V) (ds : List D), vs = [.ref a] ∧ SqL K H a xs ∧ Same F H ∧ Rps K F xs ds ∧ okS ds = true ∧ ∀ p ys, H p = none → Rps K F ys (sortD ds) → Q (.ref p) (upd H p (.lst ys))
theorem cr_sortD (hu : X.A.units + 64 < cLine) : CallR X (.builtin "sorted") (rSortD X.K) := by
  intro pins s σ H vs us Q I r h
  obtain ⟨F, a, xs, ds, rfl, hs, sub, rx, ok, q⟩ := h
  obtain ⟨its, rv, hl, hz⟩ := I.list hs
  obtain ⟨u, rfl, ru⟩ := vals1 r
  obtain rfl : u = Value.ref a := ru
  have e := each_of rv rx
  have hz2 : ds.length ≤ sizeLine := by rw [← rx.length]; exact hz
  refine PySem.W.sorted_of_sort hl.isList (by rw [e.length]; exact hz2) (args_sorted1 _) (fun _ => args_list_sort _) fun E' => ?_
  refine sort_core (s := { s with heap := copyHeap s.heap its }) (h0 := s.heap) (PySem.W.copyHeap_at s.heap its) ok e (fun t ht h1 => reads_of (us := []) I sub h1 rv rx) (fun t ht h1 => depth_of ht h1 rx) (fun b o q => ?_) hz2 (show X.A.units + 1 + 1 + 8 < cLine by omega) fun out hl2 eo => ⟨rfl, ?_⟩
  · have hlt : b < s.heap.objs.size := Heap.lt_size q
    refine ⟨Nat.ne_of_lt (Nat.lt_succ_of_lt hlt), ?_⟩
    unfold copyHeap
    refine Heap.get?_push_of_some _ ?_
    rw [Heap.get?_update_ne _ _ _ _ (Nat.ne_of_lt hlt)]
    exact Heap.get?_push_of_some _ q
  · obtain ⟨ys, h1, h2⟩ := of_each eo
    obtain ⟨n, hn⟩ := sortedAll_at s.heap its out.toArray
    have hd : s.heap.objs.size ≤ s.heap.objs.size + 1 := Nat.le_succ _
    refine ⟨.ref (s.heap.objs.size + 1), upd H (s.heap.objs.size + 1) (.lst ys), I.laid (t' := s.toks) (fun b o e => sortedAll_old e) hd ⟨?_, out, n, h1, hn⟩, rfl, q _ ys (I.hok.fresh hd) h2⟩
    rw [h1.length, hl2, e.length]
    exact hz2
/-- sorted of a dict of such keys -/
def rSortN (K : Frag) : List V → Hp → VK → Prop := fun vs H Q => ∃ (F : Hp) (a : Addr) (kvs : List NE) (ds : List (D × D)), vs = [.ref a] ∧ Same F H ∧ AtN K F H a kvs ds ∧ okS (ds.map (·.1)) = true ∧ ∀ p ys, H p = none → Rps K F ys (sortD (ds.map (·.1))) → Q (.ref p) (upd H p (.lst ys))
theorem keys_rps {K : Frag} {F : Hp} : ∀ {ds : List (D × D)} {kvs : List NE}, NRps K F kvs ds → Rps K F (kvs.map fun p => V.ref p.2.1) (ds.map (·.1))
  | [], _, .nil => .nil
  | _ :: _, _, .cons _ r _ t => .cons r (keys_rps t)
theorem keys_vals : ∀ {kvs : List NE} {us : List (NestedKey × Addr × Value)}, NEs kvs us → Vals (kvs.map fun p => V.ref p.2.1) (us.map fun q => Value.ref q.2.1)
  | _, _, .nil => .nil
  | _, _, .cons r t => .cons (by show Value.ref _ = Value.ref _; rw [r.2.1]) (keys_vals t)
theorem items_eq {P : Nat → Value → Prop} {acc : Array Value} {l : List Value} {n : Nat} (h : ItemsOf P acc n) (hn : n = l.length) (hp : ∀ i v, P i v → l[i]? = some v) : acc.toList = l := by
  refine List.ext_getElem? fun i => ?_
  cases e : acc.toList[i]? with
  | none =>
    have := List.getElem?_eq_none_iff.mp e
    rw [Array.length_toList, h.1, hn] at this
    exact (List.getElem?_eq_none_iff.mpr this).symm
  | some v => exact (hp i v (h.2 i v (by rw [← Array.getElem?_toList]; exact e))).symm
theorem cr_sortN (hc : X.calm = true) (hu : X.A.units + 64 < cLine) : CallR X (.builtin "sorted") (rSortN X.K) := by
  intro pins s σ H vs us Q I r h
  obtain ⟨F, a, kvs, ds, rfl, sub, g, ok, q⟩ := h
  obtain ⟨u, rfl, ru⟩ := vals1 r
  obtain rfl : u = Value.ref a := ru
  obtain ⟨xs, hn, ⟨o, es, ep, ho, hx, hdat, he, _, _⟩, hl, hs⟩ := atN_dict I sub g
  have hraw : s.heap.DictRaw a es ep := ⟨o, ho, hx, hdat⟩
  have rx := keys_rps g.1
  have rv := keys_vals hn
  have hlen : es.size = (xs.map fun q => Value.ref q.2.1).length := by rw [← Array.length_toList, he, List.length_map, List.length_map]
  have hxl : xs.length = kvs.length := by have := congrArg List.length hn.keys; simpa using this
  have hz : (xs.map fun q => Value.ref q.2.1).length ≤ sizeLine := by rw [List.length_map, hxl]; exact hl
  refine Calls.call_function_entry PyProof.Rows.kind_sorted PyProof.Rows.plain_sorted PyProof.Rows.entry_sorted (PyProof.Rows.args_sorted1 _) ?_
  unfold Builtin.«sorted»
  refine wpAny_bind (m := checkCount "sorted" 1 1 _) (wpAny_pure ?_)
  refine wpAny_bind (PySem.W.kdu_collect (A := X.A.in1) (KdlSrc.rawDict (es := es) (ep := ep) hs) (I.ok.hd hc) hraw (by rw [hlen]; exact hz) fun h' tk acc hk hacc => ?_)
  have hal : acc.toList = xs.map fun q => Value.ref q.2.1 := items_eq hacc hlen fun i v ⟨hi, e⟩ => by
    have : es.toList[i]? = some es[i] := by rw [Array.getElem?_toList, Array.getElem?_eq_getElem hi]
    rw [he, List.getElem?_map] at this
    obtain ⟨x, hx1, hx2⟩ := Option.map_eq_some_iff.mp this
    rw [List.getElem?_map, hx1, e, ← hx2]
    rfl
  rw [hal]
  have I1 : Inv X pins σ H { s with heap := h', toks := tk } := I.kept hk
  refine wpAny_bind (wpAny_newList ?_ hz)
  have hoL : (h'.push (seqObj "list" (xs.map fun q => Value.ref q.2.1).toArray 0)).get? h'.objs.size = some (seqObj "list" (xs.map fun q => Value.ref q.2.1).toArray 0) := Heap.get?_push_size _ rfl
  show wpAny _ _ _ _ _ { s with heap := h'.push (seqObj "list" (xs.map fun q => Value.ref q.2.1).toArray 0), toks := tk }
  have e := each_of rv rx
  have hz2 : (ds.map (·.1)).length ≤ sizeLine := by rw [← e.length]; exact hz
  refine wpAny_bind (wpAny_holding (wpAny_call_entry PyProof.Rows.slot_list_sort ⟨_, hoL, rfl⟩ PyProof.Rows.entry_list_sort
    (sort_core (s := { s with heap := h'.push (seqObj "list" (xs.map fun q => Value.ref q.2.1).toArray 0), toks := tk }) (h0 := h') hoL ok e (fun t ht h1 => reads_of (us := []) I1 sub h1 rv rx) (fun t ht h1 => depth_of ht h1 rx) (fun b o q => ⟨Nat.ne_of_lt (Heap.lt_size q), Heap.get?_push_of_some _ q⟩) hz2 (show X.A.units + 1 + 1 + 8 < cLine by omega) fun out hl2 eo => ⟨.none, rfl, ?_⟩) (PyProof.Rows.args_list_sort _)))
  obtain ⟨ys, h1, h2⟩ := of_each eo
  obtain ⟨n, hn'⟩ := sortedHeap_at (out := out.toArray) hoL
  refine wpAny_pure ⟨_, rfl, .ref h'.objs.size, upd H h'.objs.size (.lst ys), ?_, rfl, q _ ys (I1.hok.fresh (Nat.le_refl _)) h2⟩
  refine I1.laid (t' := tk) (fun b o e => ?_) (Nat.le_refl _) ⟨?_, out, n, h1, hn'⟩
  · have hlt : b < h'.objs.size := Heap.lt_size e
    rw [sortedHeap_old (Nat.ne_of_lt hlt) (Heap.lt_size (Heap.get?_push_of_some _ e))]
    exact Heap.get?_push_of_some _ e
  · rw [h1.length, hl2]
    exact hz
end
end Z

set_option linter.all false
set_option autoImplicit false
set_option Elab.async false
set_option maxRecDepth 100000
/-! Z, part 3e: dict of a list of pairs. -/
namespace Z
open PySem PySem.Spec PyProof.Rows L2
section
variable {X : Cx} {pins : List (Addr × Obj)} {σ : St} {H F : Hp} {s : Shared}
/-- the pairs as they stand -/
theorem pairs_at (I : Inv X pins σ H s) (sub : Same F H) : ∀ {ds : List D} {l : List (D × D)} {vs : List V} {us : List Value}, pairsOf ds = some l → Rps X.K F vs ds → Vals vs us →
    ∃ (kvs : List NE) (ws : List (NestedKey × Addr × Value)) (ts : List Addr), NRps X.K F kvs l ∧ NEs kvs ws ∧ us = ts.map Value.ref ∧ ts.length = ws.length ∧ ws.length = l.length ∧ ∀ (j : Nat) T w, ts[j]? = some T → ws[j]? = some w → PairAt s.heap T (.ref w.2.1) w.2.2 ∧ (nestedKind X.prog X.w).is s.heap w.1 w.2.1
  | [], l, vs, us, e, r, rv => by
    cases e
    cases r
    cases rv
    exact ⟨[], [], [], .nil, .nil, rfl, rfl, rfl, fun j T w h => by simp at h⟩
  | d :: ds, l, vs, us, e, r, rv => by
    unfold pairsOf at e
    split at e
    · rename_i q; cases q
    · rename_i kd vd r' q
      cases q
      split at e
      · rename_i hz
        obtain ⟨l', hl, rfl⟩ := Option.map_eq_some_iff.mp e
        obtain ⟨k, hk⟩ := Option.isSome_iff_exists.mp hz
        cases r with
        | cons r1 r2 =>
          cases rv with
          | cons v1 v2 =>
            obtain ⟨kvs, ws, ts, h1, h2, rfl, h4, h5, h6⟩ := pairs_at I sub hl r2 v2
            cases r1 with
            | @tup T xs _ hT rT =>
              cases rT with
              | cons a1 aT =>
                cases aT with
                | cons a2 aN =>
                  cases aN
                  obtain ⟨c, rfl⟩ := nkT_ref hk a1
                  obtain ⟨its, rt, hit, _⟩ := I.tuple (Same.seqT sub hT)
                  obtain ⟨u1, u2, rfl, z1, z2⟩ := vals2 rt
                  obtain rfl : u1 = Value.ref c := z1
                  have v1 : _ = Value.ref T := v1
                  subst v1
                  refine ⟨(k, c, _) :: kvs, (k, c, u2) :: ws, T :: ts, .cons hk a1 a2 h1, .cons ⟨rfl, rfl, z2⟩ h2, rfl, congrArg Nat.succ h4, congrArg Nat.succ h5, fun j T' w e1 e2 => ?_⟩
                  cases j with
                  | zero =>
                    simp only [List.getElem?_cons_zero, Option.some.injEq] at e1 e2
                    subst e1 e2
                    exact ⟨.inl hit, nkT_is I sub hk a1⟩
                  | succ j => exact h6 j T' w (by simpa using e1) (by simpa using e2)
      · cases e
    · cases e
theorem put_all {K : Frag} : ∀ {l : List (D × D)} {kvs : List NE} {ws : List (NestedKey × Addr × Value)} {acc : List NE} {accW : List (NestedKey × Addr × Value)} {accD : List (D × D)}, NRps K F kvs l → NEs kvs ws → NEs acc accW → NRps K F acc accD →
    NEs (kvs.foldl (fun a p => putE a p.1 p.2.1 p.2.2) acc) (storedAllH accW ws) ∧ NRps K F (kvs.foldl (fun a p => putE a p.1 p.2.1 p.2.2) acc) (l.foldl (fun a p => dput a p.1 p.2) accD) ∧ (kvs.foldl (fun a p => putE a p.1 p.2.1 p.2.2) acc).length ≤ acc.length + kvs.length
  | [], _, _, _, _, _, .nil, .nil, na, ra => ⟨na, ra, Nat.le_refl _⟩
  | p :: l, (k0, c0, v0) :: kvs, (k1, c1, v1) :: ws, acc, accW, accD, .cons hk rk rv t, .cons rw' tn, na, ra => by
    obtain ⟨e1, e2, e3⟩ := rw'
    dsimp only at e1 e2 e3
    subst e1 e2
    have h := put_all t tn (na.put (k := k0) (b := c0) e3) (ra.put hk rk rv)
    refine ⟨h.1, h.2.1, ?_⟩
    have h8 := h.2.2
    have h9 := putE_len acc k0 c0 v0
    rw [List.foldl_cons, List.length_cons]
    exact Nat.le_trans h8 (by omega)
def rDictP (K : Frag) : List V → Hp → VK → Prop := fun xs H Q => ∃ F a vs ds l, xs = [V.ref a] ∧ SqL K H a vs ∧ Same F H ∧ Rps K F vs ds ∧ pairsOf ds = some l ∧ ∀ p od kvs, H p = none → NRps K F kvs (l.foldl (fun a p => dput a p.1 p.2) []) → Q (.ref p) (upd H p (dN p od kvs))
theorem cr_dictP (hc : X.calm = true) (hu : X.A.units + 64 < cLine) : CallR X (.type "dict") (rDictP X.K) := by
  intro pins s σ H xs us Q I r h
  obtain ⟨F, a, vs, ds, l, rfl, hs, sub, rr, hl, q⟩ := h
  obtain ⟨u, rfl, ru⟩ := vals1 r
  obtain rfl : u = Value.ref a := ru
  obtain ⟨its, rv, ⟨o, n, ho, hcl, hdt, hseq⟩, hz⟩ := I.list hs
  obtain ⟨kvs, ws, ts, h1, h2, rfl, h4, h5, h6⟩ := pairs_at I sub hl rr rv
  have hlen : ws.length ≤ sizeLine := by
    have := rv.length
    rw [List.length_map] at this
    omega
  obtain ⟨g1, g2, g3⟩ := put_all (acc := []) (accW := []) (accD := []) h1 h2 .nil .nil
  have hn : ws.length = (ws.map fun w => (Value.ref w.2.1, w.2.2)).length := by rw [List.length_map]
  have P := PairArg.list (prog := X.prog) (w := X.w) a (ts.map Value.ref).toArray (fun j => ts.getD j 0) (ws.map fun w => (Value.ref w.2.1, w.2.2))
  rw [← hn] at P
  have items : PairItems s.heap (ts.map Value.ref).toArray (fun j => ts.getD j 0) (ws.map fun w => (Value.ref w.2.1, w.2.2)) := by
    refine ⟨by simp [h4], fun j k v hj => ?_⟩
    rw [List.getElem?_map] at hj
    obtain ⟨w, hw, e⟩ := Option.map_eq_some_iff.mp hj
    cases e
    have hjl : j < ts.length := by rw [h4]; exact (List.getElem?_eq_some_iff.mp hw).1
    have e1 : ts[j]? = some ts[j] := List.getElem?_eq_getElem hjl
    have e2 : ts.getD j 0 = ts[j] := by rw [List.getD_eq_getElem?_getD, e1]; rfl
    show (ts.map Value.ref).toArray[j]? = some (.ref (ts.getD j 0)) ∧ PairAt s.heap (ts.getD j 0) (.ref w.2.1) w.2.2
    refine ⟨?_, ?_⟩
    · rw [e2, List.getElem?_toArray, List.getElem?_map, e1]; rfl
    · rw [e2]; exact (h6 j ts[j] w e1 hw).1
  have his : ∀ x ∈ ws, (nestedKind X.prog X.w).is s.heap x.1 x.2.1 := fun x hx => by
    obtain ⟨j, hj, rfl⟩ := List.getElem_of_mem hx
    have hjl : j < ts.length := by rw [h4]; exact hj
    exact (h6 j ts[j] ws[j] (List.getElem?_eq_getElem hjl) (List.getElem?_eq_getElem hj)).2
  refine call_dict_pairsH (knd := nestedKind X.prog X.w) (ps := ws) P (I.ok.hd hc) (show X.A.units + 1 + 1 + 8 < cLine by omega) ⟨⟨o, n, ho, hcl, hdt, hseq⟩, items⟩ ⟨rfl, fun i key v hr => ?_⟩ (fun h' hk x hx => ?_) hlen fun h' tk hd' hk => ?_
  · have hr : (ws.map fun w => (Value.ref w.2.1, w.2.2))[i]? = some (key, v) := hr
    rw [List.getElem?_map] at hr
    obtain ⟨w, hw, e⟩ := Option.map_eq_some_iff.mp hr
    cases e
    exact ⟨w.1, w.2.1, hw, rfl⟩
  · exact (nestedKind_stays (prog := X.prog) (w := X.w)).stays (fun b o _ _ e _ => hk b o (Nat.ne_of_lt (Heap.lt_size e)) (by simp) e) (his x hx)
  · obtain ⟨od, ok⟩ := dN_ok (H := H) hd' g1 (by
      have e9 := h2.length
      have : kvs.length = ws.length := e9
      have g3' : (kvs.foldl (fun a p => putE a p.1 p.2.1 p.2.2) []).length ≤ 0 + kvs.length := g3
      omega) (beq_eq_false_iff_ne.mpr (Ne.symm (Nat.ne_of_lt I.big)))
    refine ⟨.ref s.heap.objs.size, _, I.laid (t' := tk) (fun b o e => hk b o (by simp) e) (Nat.le_refl _) (o := dN s.heap.objs.size od _) ok, rfl, q _ od _ (I.hok.fresh (Nat.le_refl _)) g2⟩
end
end Z

set_option linter.all false
set_option autoImplicit false
set_option Elab.async false
set_option maxRecDepth 100000
/-! Z, part 4: operators by data. -/
namespace Z
open PySem PySem.Spec PyProof.Rows L2
/-- an operation of the machine does by values what r does by data -/
def Does (K : Frag) (r : R2) (x y : D) (z : RV) : Prop :=
  ∀ (b : Bs) (σ : St) (H : Hp) (ρ : Env) (F : Hp) (ad : Nat → Addr) (v w : V) (Q : VK), Rl K b σ H ρ F ad → Lk K F H v x → Lk K F H w y → Post K b σ H ρ F ad z Q → r v w H Q
theorem LL_lt : LL < sizeLine := by decide
theorem LL_le {n : Nat} (h : n ≤ LL) : n ≤ sizeLine := Nat.le_trans h (Nat.le_of_lt LL_lt)
theorem mul_small {i j : Int} (h : i.natAbs < BB) : CMulW i j ∨ (-(2 ^ 64) < i ∧ i < 2 ^ 64) := by
  right
  have : i.natAbs < 2 ^ 64 := h
  omega
theorem CMulAny {X : Cx} : OpR X (binaryOp .Mult) (rI (fun i j => i.natAbs < BB ∨ j.natAbs < BB ∨ (i.natAbs < WW ∧ j.natAbs < WW)) fun i j => .int (i * j)) := by
  intro pins s σ H x y v u Q I rx ry h
  obtain ⟨i, j, rfl, rfl, hc, q⟩ := h
  rcases hc with hc | hc | ⟨h1, h2⟩
  · have : i.natAbs < 2 ^ 64 := hc
    exact op_mul pins s σ H _ _ v u Q I rx ry ⟨i, j, rfl, rfl, .inl (by omega), q⟩
  · have : j.natAbs < 2 ^ 64 := hc
    exact op_mul pins s σ H _ _ v u Q I rx ry ⟨i, j, rfl, rfl, .inr (by omega), q⟩
  · exact op_mulW pins s σ H _ _ v u Q I rx ry ⟨i, j, rfl, rfl, wide_mul (a := 40000) (b := 40000) h1 h2 (by decide) (by decide) (by decide), q⟩
theorem CFdiv {X : Cx} : OpR X (binaryOp .FloorDiv) (rI (fun _ j => 0 < j ∧ j.natAbs < DW) fun i j => .int (i.fdiv j)) := by
  intro pins s σ H x y v u Q I rx ry h
  obtain ⟨i, j, rfl, rfl, ⟨h1, h2⟩, q⟩ := h
  dsimp only at q
  rw [Int.fdiv_eq_ediv_of_nonneg i (by omega)] at q
  exact op_fdivW pins s σ H _ _ v u Q I rx ry ⟨i, j, rfl, rfl, wide_div (b := 8000) h1 h2 (by decide) (by decide), q⟩
theorem bop_ok {X : Cx} {op : Operator} {x y : D} {z : RV} (e : bop op x y = some z) : ∃ r : R2, OpR X (binaryOp op) r ∧ Does X.K r x y z := by
  unfold bop at e
  split at e
  · cases e
    refine ⟨_, op_add, fun b σ H ρ F ad v w Q R hx hy h => ?_⟩
    obtain rfl := hx; obtain rfl := hy
    exact ⟨_, _, rfl, rfl, h.imm R (.int _)⟩
  · split at e
    · cases e
      rename_i xs ys hz
      refine ⟨_, op_cat, fun b σ H ρ F ad v w Q R hx hy h => ?_⟩
      obtain ⟨a, us, rfl, h1, r1⟩ := hx; obtain ⟨c, ws, rfl, h2, r2⟩ := hy
      exact ⟨_, _, us, ws, rfl, rfl, h1, h2, LL_le (by rw [r1.length, r2.length]; exact hz.2.2), h.newL R (r1.append r2)⟩
    · cases e
  · split at e
    · cases e
      rename_i xs ys hz
      refine ⟨_, op_catA, fun b σ H ρ F ad v w Q R hx hy h => ?_⟩
      obtain ⟨a, us, rfl, h1, r1⟩ := hx; obtain ⟨c, ws, rfl, h2, r2⟩ := hy
      refine ⟨_, _, us, ws, rfl, rfl, Same.seqT R.sub h1, Same.seqT R.sub h2, LL_le (by rw [r1.length, r2.length]; exact hz.2.2), fun q => ?_, fun _ q => ?_, fun _ _ => h.newT R (r1.append r2)⟩
      · subst q
        cases r1
        exact h.imm R (.tup h2 r2)
      · subst q
        cases r2
        exact h.imm R (.tup h1 (by rw [List.append_nil]; exact r1))
    · cases e
  · cases e
    refine ⟨_, op_sub, fun b σ H ρ F ad v w Q R hx hy h => ?_⟩
    obtain rfl := hx; obtain rfl := hy
    exact ⟨_, _, rfl, rfl, h.imm R (.int _)⟩
  · split at e
    · cases e
      rename_i i j hz
      refine ⟨_, CMulAny, fun b σ H ρ F ad v w Q R hx hy h => ?_⟩
      obtain rfl := hx; obtain rfl := hy
      exact ⟨_, _, rfl, rfl, hz, h.imm R (.int _)⟩
    · cases e
  · split at e
    · cases e
      rename_i xs j hz
      refine ⟨_, op_rep, fun b σ H ρ F ad v w Q R hx hy h => ?_⟩
      obtain ⟨a, us, rfl, h1, r1⟩ := hx; obtain rfl := hy
      have hL : LL = 16000000 := rfl
      exact ⟨_, _, us, rfl, rfl, h1, by omega, by omega, LL_le (by rw [r1.length]; exact hz.2), h.newL R (r1.rep _)⟩
    · cases e
  · split at e
    · cases e
      rename_i i j hz
      refine ⟨_, op_modN, fun b σ H ρ F ad v w Q R hx hy h => ?_⟩
      obtain rfl := hx; obtain rfl := hy
      exact ⟨_, _, rfl, rfl, by omega, h.imm R (.int _)⟩
    · cases e
  · split at e
    · cases e
      rename_i i j hz
      refine ⟨_, CFdiv, fun b σ H ρ F ad v w Q R hx hy h => ?_⟩
      obtain rfl := hx; obtain rfl := hy
      exact ⟨_, _, rfl, rfl, hz, h.imm R (.int _)⟩
    · cases e
  · split at e
    · cases e
      rename_i i j hz
      refine ⟨_, op_pow, fun b σ H ρ F ad v w Q R hx hy h => ?_⟩
      obtain rfl := hx; obtain rfl := hy
      exact ⟨_, _, rfl, rfl, ⟨hz.1, by omega, hz.2.2⟩, h.imm R (.int _)⟩
    · cases e
  · cases e
end Z

set_option linter.all false
set_option autoImplicit false
set_option Elab.async false
set_option maxRecDepth 100000
/-! Z, part 5: comparisons, subscripts, truth, built-ins by data. -/
namespace Z
open PySem PySem.Spec PyProof.Rows L2
mutual
theorem flat_dp {K : Frag} {H : Hp} : ∀ {d : D} {n : Nat} {v : V}, D.flat n d = true → Rp K H v d → Dp K H v d.py
  | .non, _, _, _, .non => by rw [D.py]; exact .non
  | .bl _, _, _, _, .bl _ => by rw [D.py]; exact .bl _
  | .int _, _, _, _, .int _ => by rw [D.py]; exact .int _
  | .str _, _, _, _, .str _ => by rw [D.py]; exact .str _
  | .lst ds, 0, _, h, _ => by simp [D.flat] at h
  | .lst ds, n + 1, _, h, .lst q r => by rw [D.py]; exact .lst (.of q) (flats_dp (by simpa [D.flat] using h) r)
  | .tup ds, 0, _, h, _ => by simp [D.flat] at h
  | .tup ds, n + 1, _, h, .tup q r => by rw [D.py]; exact .tup q (flats_dp (by simpa [D.flat] using h) r)
theorem flats_dp {K : Frag} {H : Hp} : ∀ {ds : List D} {n : Nat} {vs : List V}, D.flats n ds = true → Rps K H vs ds → DpAll K H vs (D.pys ds)
  | [], _, _, _, .nil => by rw [D.pys]; exact .nil
  | d :: ds, n, _, h, .cons q r => by
    rw [D.flats, Bool.and_eq_true] at h
    rw [D.pys]
    exact .cons (flat_dp h.1 q) (flats_dp h.2 r)
end
mutual
theorem flat_lay : ∀ {d : D} {n : Nat}, D.flat n d = true → d.py.canLay0 = true ∧ d.py.depth ≤ n
  | .non, n, _ => by rw [D.py]; exact ⟨by simp [PyData.canLay0], by simp [PyData.depth]⟩
  | .bl _, n, _ => by rw [D.py]; exact ⟨by simp [PyData.canLay0], by simp [PyData.depth]⟩
  | .int _, n, _ => by rw [D.py]; exact ⟨by simp [PyData.canLay0], by simp [PyData.depth]⟩
  | .str s, n, h => by
    rw [D.py]
    rw [D.flat] at h
    exact ⟨by simpa [PyData.canLay0, PyData.strOk] using h, by simp [PyData.depth]⟩
  | .lst ds, 0, h => by simp [D.flat] at h
  | .lst ds, n + 1, h => by
    obtain ⟨h1, h2⟩ := flats_lay (ds := ds) (n := n) (by simpa [D.flat] using h)
    rw [D.py]
    exact ⟨by simpa [PyData.canLay0] using h1, by simp [PyData.depth]; omega⟩
  | .tup ds, 0, h => by simp [D.flat] at h
  | .tup ds, n + 1, h => by
    obtain ⟨h1, h2⟩ := flats_lay (ds := ds) (n := n) (by simpa [D.flat] using h)
    rw [D.py]
    exact ⟨by simpa [PyData.canLay0] using h1, by simp [PyData.depth]; omega⟩
  | .dic _, n, h => by simp [D.flat] at h
  | .scr _, n, h => by simp [D.flat] at h
theorem flats_lay : ∀ {ds : List D} {n : Nat}, D.flats n ds = true → PyData.canLayAll0 (D.pys ds) = true ∧ PyData.depthAll (D.pys ds) ≤ n
  | [], n, _ => by rw [D.pys]; exact ⟨by simp [PyData.canLayAll0], by simp [PyData.depthAll]⟩
  | d :: ds, n, h => by
    rw [D.flats, Bool.and_eq_true] at h
    obtain ⟨h1, h2⟩ := flat_lay h.1
    obtain ⟨h3, h4⟩ := flats_lay h.2
    rw [D.pys]
    exact ⟨by simp [PyData.canLayAll0, h1, h3], by simp [PyData.depthAll]; omega⟩
end
theorem fl_shaped {d : D} (h : d.fl = true) : SeqAt.shaped d.py = true := by
  obtain ⟨h1, h2⟩ := flat_lay h
  unfold SeqAt.shaped
  rw [h1, Bool.true_and]
  exact decide_eq_true (by omega)
theorem fls_shaped {ds : List D} (h : D.flats 20 ds = true) : SeqAt.shaped (.list (D.pys ds)) = true := by
  obtain ⟨h1, h2⟩ := flats_lay h
  unfold SeqAt.shaped
  rw [show (PyData.list (D.pys ds)).canLay0 = true by simpa [PyData.canLay0] using h1, Bool.true_and]
  exact decide_eq_true (by simp [PyData.depth]; omega)
mutual
theorem eqv_py : ∀ {d e : D} {n m : Nat}, D.flat n d = true → D.flat m e = true → D.eqv d e = PyData.eqv d.py e.py
  | .non, e, n, m, h, g => by cases e <;> simp [D.py, D.eqv, PyData.eqv] <;> simp [D.flat] at g
  | .bl _, e, n, m, h, g => by cases e <;> simp [D.py, D.eqv, PyData.eqv] <;> simp [D.flat] at g
  | .int _, e, n, m, h, g => by cases e <;> simp [D.py, D.eqv, PyData.eqv] <;> simp [D.flat] at g
  | .str _, e, n, m, h, g => by cases e <;> simp [D.py, D.eqv, PyData.eqv] <;> simp [D.flat] at g
  | .lst ds, .lst es, n, m, h, g => by
    cases n with
    | zero => simp [D.flat] at h
    | succ n =>
      cases m with
      | zero => simp [D.flat] at g
      | succ m => simp only [D.py, D.eqv, PyData.eqv]; exact eqvs_py (by simpa [D.flat] using h) (by simpa [D.flat] using g)
  | .tup ds, .tup es, n, m, h, g => by
    cases n with
    | zero => simp [D.flat] at h
    | succ n =>
      cases m with
      | zero => simp [D.flat] at g
      | succ m => simp only [D.py, D.eqv, PyData.eqv]; exact eqvs_py (by simpa [D.flat] using h) (by simpa [D.flat] using g)
  | .lst ds, .non, n, m, h, g => by simp [D.py, D.eqv, PyData.eqv]
  | .lst ds, .bl _, n, m, h, g => by simp [D.py, D.eqv, PyData.eqv]
  | .lst ds, .int _, n, m, h, g => by simp [D.py, D.eqv, PyData.eqv]
  | .lst ds, .str _, n, m, h, g => by simp [D.py, D.eqv, PyData.eqv]
  | .lst ds, .tup _, n, m, h, g => by simp [D.py, D.eqv, PyData.eqv]
  | .tup ds, .non, n, m, h, g => by simp [D.py, D.eqv, PyData.eqv]
  | .tup ds, .bl _, n, m, h, g => by simp [D.py, D.eqv, PyData.eqv]
  | .tup ds, .int _, n, m, h, g => by simp [D.py, D.eqv, PyData.eqv]
  | .tup ds, .str _, n, m, h, g => by simp [D.py, D.eqv, PyData.eqv]
  | .tup ds, .lst _, n, m, h, g => by simp [D.py, D.eqv, PyData.eqv]
  | _, .dic _, n, m, h, g => by simp [D.flat] at g
  | _, .scr _, n, m, h, g => by simp [D.flat] at g
  | .dic _, _, n, m, h, g => by simp [D.flat] at h
  | .scr _, _, n, m, h, g => by simp [D.flat] at h
theorem eqvs_py : ∀ {ds es : List D} {n m : Nat}, D.flats n ds = true → D.flats m es = true → D.eqvs ds es = PyData.eqvAll (D.pys ds) (D.pys es)
  | [], [], _, _, _, _ => by simp [D.pys, D.eqvs, PyData.eqvAll]
  | [], _ :: _, _, _, _, _ => by simp [D.pys, D.eqvs, PyData.eqvAll]
  | _ :: _, [], _, _, _, _ => by simp [D.pys, D.eqvs, PyData.eqvAll]
  | d :: ds, e :: es, n, m, h, g => by
    rw [D.flats, Bool.and_eq_true] at h g
    simp only [D.pys, D.eqvs, PyData.eqvAll]
    rw [eqv_py h.1 g.1, eqvs_py h.2 g.2]
end
theorem mem_py {x : D} : ∀ {ys : List D}, x.fl = true → D.flats 20 ys = true → mem x ys = (D.pys ys).any fun z => PyData.eqv z x.py
  | [], _, _ => rfl
  | y :: ys, h, g => by
    rw [D.flats, Bool.and_eq_true] at g
    unfold mem
    rw [D.pys, List.any_cons, List.any_cons, eqv_py g.1 h]
    exact congrArg _ (mem_py (ys := ys) h g.2)
theorem imm_v {K : Frag} {F : Hp} {v : V} {d : D} (i : d.imm = true) (h : Rp K F v d) : flatV v = true := by
  cases h with
  | non => rfl
  | bl => rfl
  | int => rfl
  | str => rfl
  | lst => cases i
  | scr => cases i
  | tup => cases i
  | dic => cases i
  | dicN => cases i
theorem imm_eqv {K : Frag} {F G : Hp} {v w : V} {d e : D} (i : d.imm = true) (j : e.imm = true) (h : Rp K F v d) (g : Rp K G w e) : eqV v w = D.eqv d e := by
  cases h with
  | lst => cases i
  | scr => cases i
  | tup => cases i
  | dic => cases i
  | dicN => cases i
  | _ => cases g with
    | lst => cases j
    | scr => cases j
    | tup => cases j
    | dic => cases j
    | dicN => cases j
    | _ => simp [eqV, D.eqv]
theorem imms_v {K : Frag} {F : Hp} : ∀ {ds : List D} {vs : List V}, ds.all D.imm = true → Rps K F vs ds → vs.all flatV = true
  | [], _, _, .nil => rfl
  | d :: ds, _, i, .cons q r => by
    rw [List.all_cons, Bool.and_eq_true] at i
    rw [List.all_cons, imm_v i.1 q, Bool.true_and]
    exact imms_v i.2 r
theorem imms_mem {K : Frag} {F G : Hp} {v : V} {d : D} (i : d.imm = true) (h : Rp K F v d) : ∀ {ds : List D} {vs : List V}, ds.all D.imm = true → Rps K G vs ds → inV v vs = mem d ds
  | [], _, _, .nil => rfl
  | e :: ds, _, j, .cons q r => by
    rw [List.all_cons, Bool.and_eq_true] at j
    unfold inV mem
    rw [List.any_cons, List.any_cons, imm_eqv j.1 i q h]
    exact congrArg _ (imms_mem i h j.2 r)
theorem cop_ok {X : Cx} {k : Nat} (hr : Room k X.A) {op : CmpOp} {x y : D} {z : Bool} (e : cop op x y = some z) : ∃ r : R2, OpR X (compareOp op) r ∧ Does X.K r x y (.val (.bl z)) := by
  have hu := hr.units
  have hu5 : X.A.units + 65 < cLine := by have := hr.un; omega
  unfold cop at e
  split at e
  · cases e
    refine ⟨_, op_eq, fun b σ H ρ F ad v w Q R hx hy h => ?_⟩
    obtain rfl := hx; obtain rfl := hy
    refine ⟨rfl, ?_⟩
    rw [dec_str]
    exact h.imm R (.bl _)
  · cases e
    refine ⟨_, op_ne, fun b σ H ρ F ad v w Q R hx hy h => ?_⟩
    obtain rfl := hx; obtain rfl := hy
    refine ⟨rfl, ?_⟩
    rw [dec_str]
    exact h.imm R (.bl _)
  · split at e
    · cases e
      rename_i x y hz
      rw [Bool.and_eq_true] at hz
      refine ⟨_, op_eqD hu, fun b σ H ρ F ad v w Q R hx hy h => ?_⟩
      refine ⟨_, _, flat_dp hz.1 (hx.rp R.sub), flat_dp hz.2 (hy.rp R.sub), fl_shaped hz.1, fl_shaped hz.2, ?_⟩
      rw [← eqv_py hz.1 hz.2]
      exact h.imm R (.bl _)
    · cases e
  · split at e
    · cases e
      rename_i x y hz
      rw [Bool.and_eq_true] at hz
      refine ⟨_, op_neD hu, fun b σ H ρ F ad v w Q R hx hy h => ?_⟩
      refine ⟨_, _, flat_dp hz.1 (hx.rp R.sub), flat_dp hz.2 (hy.rp R.sub), fl_shaped hz.1, fl_shaped hz.2, ?_⟩
      rw [← eqv_py hz.1 hz.2]
      exact h.imm R (.bl _)
    · cases e
  · cases e
    refine ⟨_, op_lt, fun b σ H ρ F ad v w Q R hx hy h => ?_⟩
    obtain rfl := hx; obtain rfl := hy
    exact ⟨_, _, rfl, rfl, h.imm R (.bl _)⟩
  · cases e
    refine ⟨_, op_gt, fun b σ H ρ F ad v w Q R hx hy h => ?_⟩
    obtain rfl := hx; obtain rfl := hy
    exact ⟨_, _, rfl, rfl, h.imm R (.bl _)⟩
  · cases e
    refine ⟨_, op_le, fun b σ H ρ F ad v w Q R hx hy h => ?_⟩
    obtain rfl := hx; obtain rfl := hy
    exact ⟨_, _, rfl, rfl, h.imm R (.bl _)⟩
  · cases e
    refine ⟨_, op_ge, fun b σ H ρ F ad v w Q R hx hy h => ?_⟩
    obtain rfl := hx; obtain rfl := hy
    exact ⟨_, _, rfl, rfl, h.imm R (.bl _)⟩
  · split at e
    · cases e
      rename_i hz
      obtain ⟨u, hu1, h1, h2⟩ := alk_of hz
      refine ⟨_, op_ltS (by omega), fun b σ H ρ F ad v w Q R hx hy h => ?_⟩
      have d1 := sh_dp h1 (hx.rp R.sub)
      have d2 := sh_dp h2 (hy.rp R.sub)
      exact ⟨_, _, d1.1, d2.1, sh_alike h1 h2, sh_some h1, Nat.le_trans d1.2 (SHS_dep u hu1), h.imm R (.bl _)⟩
    · cases e
  · split at e
    · cases e
      rename_i hz
      obtain ⟨u, hu1, h1, h2⟩ := alk_of hz
      refine ⟨_, op_gtS (by omega), fun b σ H ρ F ad v w Q R hx hy h => ?_⟩
      have d1 := sh_dp h1 (hx.rp R.sub)
      have d2 := sh_dp h2 (hy.rp R.sub)
      exact ⟨_, _, d1.1, d2.1, sh_alike h1 h2, sh_some h1, Nat.le_trans d1.2 (SHS_dep u hu1), h.imm R (.bl _)⟩
    · cases e
  · split at e
    · cases e
      rename_i hz
      obtain ⟨u, hu1, h1, h2⟩ := alk_of hz
      refine ⟨_, op_leS (by omega), fun b σ H ρ F ad v w Q R hx hy h => ?_⟩
      have d1 := sh_dp h1 (hx.rp R.sub)
      have d2 := sh_dp h2 (hy.rp R.sub)
      exact ⟨_, _, d1.1, d2.1, sh_alike h1 h2, sh_some h1, Nat.le_trans d1.2 (SHS_dep u hu1), h.imm R (.bl _)⟩
    · cases e
  · split at e
    · cases e
      rename_i hz
      obtain ⟨u, hu1, h1, h2⟩ := alk_of hz
      refine ⟨_, op_geS (by omega), fun b σ H ρ F ad v w Q R hx hy h => ?_⟩
      have d1 := sh_dp h1 (hx.rp R.sub)
      have d2 := sh_dp h2 (hy.rp R.sub)
      exact ⟨_, _, d1.1, d2.1, sh_alike h1 h2, sh_some h1, Nat.le_trans d1.2 (SHS_dep u hu1), h.imm R (.bl _)⟩
    · cases e
  · split at e
    · cases e
      rename_i x kvs hz
      rw [Bool.and_eq_true] at hz
      obtain ⟨k, hk⟩ := Option.isSome_iff_exists.mp hz.1
      refine ⟨_, op_inN (by omega), fun b σ H ρ F ad v w Q R hx hy h => ?_⟩
      obtain ⟨a, vs, rfl, g⟩ := atN_of hy hz.2
      obtain ⟨c, rfl, rc⟩ := lk_key hk hx
      refine ⟨F, a, c, vs, kvs, _, k, rfl, rfl, ⟨R.sub, g, hk, rc⟩, ?_⟩
      have e1 : ∀ z : Bool, (z != false) = z := by decide
      rw [e1]
      exact h.imm R (.bl _)
    · cases e
  · split at e
    · cases e
      rename_i x kvs hz
      rw [Bool.and_eq_true] at hz
      obtain ⟨k, hk⟩ := Option.isSome_iff_exists.mp hz.1
      refine ⟨_, op_notInN (by omega), fun b σ H ρ F ad v w Q R hx hy h => ?_⟩
      obtain ⟨a, vs, rfl, g⟩ := atN_of hy hz.2
      obtain ⟨c, rfl, rc⟩ := lk_key hk hx
      refine ⟨F, a, c, vs, kvs, _, k, rfl, rfl, ⟨R.sub, g, hk, rc⟩, ?_⟩
      have e1 : ∀ z : Bool, (z != true) = !z := by decide
      rw [e1]
      exact h.imm R (.bl _)
    · cases e
  · split at e
    · cases e
      rename_i x ys hz
      rw [Bool.and_eq_true] at hz
      refine ⟨_, op_inD hu5, fun b σ H ρ F ad v w Q R hx hy h => ?_⟩
      obtain ⟨a, us, rfl, h1, r1⟩ := hy
      refine ⟨_, _, flat_dp hz.1 (hx.rp R.sub), .lst (.of h1) (flats_dp hz.2 (r1.mono R.sub)), fl_shaped hz.1, fls_shaped hz.2, ?_⟩
      rw [← mem_py hz.1 hz.2]
      exact h.imm R (.bl _)
    · cases e
  · split at e
    · cases e
      rename_i x ys hz
      rw [Bool.and_eq_true] at hz
      refine ⟨_, op_in_seq, fun b σ H ρ F ad v w Q R hx hy h => ?_⟩
      obtain ⟨a, us, rfl, h1, r1⟩ := hy
      have hx' : Rp X.K F v _ := hx.imm hz.1
      refine ⟨_, _, rfl, .inr (Same.seqT R.sub h1), imm_v hz.1 hx', imms_v hz.2 r1, ?_⟩
      rw [if_neg Bool.false_ne_true, imms_mem hz.1 hx' hz.2 r1]
      exact h.imm R (.bl _)
    · cases e
  · split at e
    · cases e
      rename_i x ys hz
      rw [Bool.and_eq_true] at hz
      refine ⟨_, op_notInD hu5, fun b σ H ρ F ad v w Q R hx hy h => ?_⟩
      obtain ⟨a, us, rfl, h1, r1⟩ := hy
      refine ⟨_, _, flat_dp hz.1 (hx.rp R.sub), .lst (.of h1) (flats_dp hz.2 (r1.mono R.sub)), fl_shaped hz.1, fls_shaped hz.2, ?_⟩
      rw [← mem_py hz.1 hz.2]
      exact h.imm R (.bl _)
    · cases e
  · split at e
    · cases e
      rename_i x ys hz
      rw [Bool.and_eq_true] at hz
      refine ⟨_, op_notIn_seq, fun b σ H ρ F ad v w Q R hx hy h => ?_⟩
      obtain ⟨a, us, rfl, h1, r1⟩ := hy
      have hx' : Rp X.K F v _ := hx.imm hz.1
      refine ⟨_, _, rfl, .inr (Same.seqT R.sub h1), imm_v hz.1 hx', imms_v hz.2 r1, ?_⟩
      rw [if_pos rfl, imms_mem hz.1 hx' hz.2 r1]
      exact h.imm R (.bl _)
    · cases e
  · cases e
end Z

set_option linter.all false
set_option autoImplicit false
set_option Elab.async false
set_option maxRecDepth 100000
/-! Z, part 6: subscripts, slices, truth, built-ins by data. -/
namespace Z
open PySem PySem.Spec PyProof.Rows L2
theorem place_ix (n : Nat) (i : Int) : place n i = ixN n i := rfl
theorem bound_ix (n d : Nat) (o : Option Int) : bound n d o = HT.sIx n d o := by cases o <;> rfl
theorem cut_v {K : Frag} {F : Hp} {vs : List V} {ds : List D} (h : Rps K F vs ds) (lo hi : Option Int) : Rps K F (cutV vs lo hi) (cut ds lo hi) := by
  unfold cutV cut
  rw [h.length, bound_ix, bound_ix]
  exact (h.drop _).take _
theorem sub_ok {X : Cx} {x y z : D} (nd : ∀ kvs, x ≠ .dic kvs) (e : sub x y = some z) : ∃ r : R2, IxR X r ∧ Does X.K r x y (.val z) := by
  unfold sub at e
  split at e
  · rename_i xs i
    split at e
    · rename_i j hj
      refine ⟨_, ix_list, fun b σ H ρ F ad v w Q R hx hy h => ?_⟩
      obtain ⟨a, us, rfl, h1, r1⟩ := hx
      obtain rfl := hy
      obtain ⟨u, hu, ru⟩ := r1.get e
      refine ⟨a, us, i, u, rfl, rfl, .of h1, ?_, h.imm R ru⟩
      unfold atI
      rw [r1.length, ← place_ix, hj]
      exact hu
    · cases e
  · rename_i xs i
    split at e
    · rename_i j hj
      refine ⟨_, ix_tup, fun b σ H ρ F ad v w Q R hx hy h => ?_⟩
      obtain ⟨a, us, rfl, h1, r1⟩ := hx
      obtain rfl := hy
      obtain ⟨u, hu, ru⟩ := r1.get e
      refine ⟨a, us, i, u, rfl, rfl, Same.seqT R.sub h1, ?_, h.imm R ru⟩
      unfold atI
      rw [r1.length, ← place_ix, hj]
      exact hu
    · cases e
  · rename_i ns i
    split at e
    · rename_i j hj
      refine ⟨_, ix_list, fun b σ H ρ F ad v w Q R hx hy h => ?_⟩
      obtain ⟨a, rfl, h1⟩ := hx
      obtain rfl := hy
      obtain ⟨n, hn, rfl⟩ := Option.map_eq_some_iff.mp e
      refine ⟨a, _, i, .int n, rfl, rfl, Same.seqL R.sub h1, ?_, h.imm R (.int n)⟩
      unfold atI
      rw [List.length_map, ← place_ix, hj]
      show (ns.map V.int)[j]? = _
      rw [List.getElem?_map, hn]
      rfl
    · cases e
  · exact absurd rfl (nd _)
  · exact absurd rfl (nd _)
  · exact absurd rfl (nd _)
  · cases e
/-- truth -/
theorem truth_ok {K : Frag} {b : Bs} {σ : St} {H : Hp} {ρ : Env} {F : Hp} {ad : Nat → Addr} {v : V} {d : D} {k : Bool} (R : Rl K b σ H ρ F ad) (h : Lk K F H v d) (e : truth d = some k) : TruV K v H k := by
  have em : ∀ {vs : List V} {ds : List D}, Rps K F vs ds → vs.isEmpty = ds.isEmpty := fun r => by cases r <;> rfl
  cases d with
  | non => obtain rfl := h; cases e; rfl
  | bl => obtain rfl := h; cases e; rfl
  | int => obtain rfl := h; cases e; rfl
  | str s =>
    obtain rfl := h
    unfold truth at e
    dsimp only at e
    split at e
    · rename_i hz
      cases e
      refine ⟨?_, ?_⟩
      · show s.cps.size ≤ sizeLine
        exact Nat.le_trans hz (by decide)
      · show _ = ((s.cps.size : Int) != 0)
        cases s.cps.size with
        | zero => rfl
        | succ n =>
          have h1 : (n + 1 != 0) = true := by simp
          have h2 : (((n + 1 : Nat) : Int) != 0) = true := by simp; omega
          rw [h1, h2]
    · cases e
  | lst ds => obtain ⟨a, xs, rfl, q, r⟩ := h; cases e; exact .inl ⟨xs, .of q, by rw [em r]⟩
  | tup ds => obtain ⟨a, xs, rfl, q, r⟩ := h; cases e; exact .inr (.inl ⟨xs, Same.seqT R.sub q, by rw [em r]⟩)
  | dic ds => cases e
  | scr ns =>
    obtain ⟨a, rfl, q⟩ := h
    cases e
    exact .inl ⟨_, Same.seqL R.sub q, by cases ns <;> rfl⟩
/-! ### built-ins -/
def Bf.str : Bf → String
  | .abs => "abs" | .all => "all" | .any => "any" | .dict => "dict" | .divmod => "divmod" | .int => "int" | .len => "len" | .list => "list" | .max => "max" | .min => "min" | .repr => "repr" | .set => "set"
  | .sorted => "sorted" | .sum => "sum" | .tuple => "tuple"
def Bf.isTy : Bf → Bool
  | .dict => true | .int => true | .list => true | .set => true | .tuple => true
  | _ => false
def Bf.fn (b : Bf) : Value := if b.isTy then .type b.str else .builtin b.str
theorem Bf.boot (b : Bf) : bootBuiltins b.str = some b.fn := by cases b <;> decide +kernel
def Lks (K : Frag) (F H : Hp) : List V → List D → Prop
  | [], [] => True
  | v :: vs, d :: ds => Lk K F H v d ∧ Lks K F H vs ds
  | _, _ => False
/-- a call by data -/
def DoesL (K : Frag) (r : List V → Hp → VK → Prop) (xs : List D) (z : RV) : Prop :=
  ∀ (b : Bs) (σ : St) (H : Hp) (ρ : Env) (F : Hp) (ad : Nat → Addr) (vs : List V) (Q : VK), Rl K b σ H ρ F ad → Lks K F H vs xs → Post K b σ H ρ F ad z Q → r vs H Q
theorem Lks.one {K : Frag} {F H : Hp} {vs : List V} {d : D} (h : Lks K F H vs [d]) : ∃ v, vs = [v] ∧ Lk K F H v d := by
  cases vs with
  | nil => exact h.elim
  | cons v vs => cases vs with
    | nil => exact ⟨v, rfl, h.1⟩
    | cons _ _ => exact h.2.elim
theorem Lks.two {K : Frag} {F H : Hp} {vs : List V} {d e : D} (h : Lks K F H vs [d, e]) : ∃ v w, vs = [v, w] ∧ Lk K F H v d ∧ Lk K F H w e := by
  cases vs with
  | nil => exact h.elim
  | cons v vs =>
    obtain ⟨w, rfl, q⟩ := Lks.one (vs := vs) h.2
    exact ⟨v, w, rfl, h.1, q⟩
theorem intsOf_eq : ∀ {ds : List D} {l : List Int}, intsOf ds = some l → ds = l.map .int
  | [], l, e => by cases e; rfl
  | .int i :: r, l, e => by
    unfold intsOf at e
    obtain ⟨m, h, rfl⟩ := Option.map_eq_some_iff.mp e
    rw [intsOf_eq h]
    rfl
  | .non :: _, l, e => by cases e
  | .bl _ :: _, l, e => by cases e
  | .str _ :: _, l, e => by cases e
  | .lst _ :: _, l, e => by cases e
  | .tup _ :: _, l, e => by cases e
  | .dic _ :: _, l, e => by cases e
  | .scr _ :: _, l, e => by cases e
theorem blsOf_eq : ∀ {ds : List D} {l : List Bool}, blsOf ds = some l → ds = l.map .bl
  | [], l, e => by cases e; rfl
  | .bl i :: r, l, e => by
    unfold blsOf at e
    obtain ⟨m, h, rfl⟩ := Option.map_eq_some_iff.mp e
    rw [blsOf_eq h]
    rfl
  | .non :: _, l, e => by cases e
  | .int _ :: _, l, e => by cases e
  | .str _ :: _, l, e => by cases e
  | .lst _ :: _, l, e => by cases e
  | .tup _ :: _, l, e => by cases e
  | .dic _ :: _, l, e => by cases e
  | .scr _ :: _, l, e => by cases e
theorem Rps.bls {K : Frag} {F : Hp} {vs : List V} : ∀ {ns : List Bool}, Rps K F vs (ns.map .bl) → vs = ns.map V.bl := by
  intro ns
  induction ns generalizing vs with
  | nil => intro h; cases h; rfl
  | cons n ns ih =>
    intro h
    cases h with
    | cons q r =>
      cases q
      rw [List.map_cons, ih r]
theorem insI_perm (x : Int) : ∀ l : List Int, (insI x l).Perm (x :: l)
  | [] => .refl _
  | y :: r => by
    unfold insI
    split
    · exact .refl _
    · exact ((insI_perm x r).cons y).trans (.swap x y r)
theorem sortI_perm : ∀ l : List Int, (sortI l).Perm l
  | [] => .refl _
  | x :: r => (insI_perm x (sortI r)).trans ((sortI_perm r).cons x)
theorem insI_sorted (x : Int) : ∀ l : List Int, l.Pairwise (· ≤ ·) → (insI x l).Pairwise (· ≤ ·)
  | [], _ => List.pairwise_singleton _ _
  | y :: r, h => by
    unfold insI
    obtain ⟨h1, h2⟩ := List.pairwise_cons.mp h
    split
    · rename_i q
      refine List.pairwise_cons.mpr ⟨fun z hz => ?_, h⟩
      rcases List.mem_cons.mp hz with rfl | hz
      · exact q
      · exact Int.le_trans q (h1 z hz)
    · rename_i q
      refine List.pairwise_cons.mpr ⟨fun z hz => ?_, insI_sorted x r h2⟩
      rcases List.mem_cons.mp ((insI_perm x r).mem_iff.mp hz) with rfl | hz
      · omega
      · exact h1 z hz
theorem sortI_sorted : ∀ l : List Int, (sortI l).Pairwise (· ≤ ·)
  | [] => .nil
  | x :: r => insI_sorted x _ (sortI_sorted r)
theorem sortI_eq {l m : List Int} (p : m.Perm l) (h : m.Pairwise (· ≤ ·)) : m = sortI l :=
  (p.trans (sortI_perm l).symm).eq_of_pairwise (le := (· ≤ ·)) (fun a b _ _ h1 h2 => Int.le_antisymm h1 h2) h (sortI_sorted l)
theorem mxI_ok : ∀ (l : List Int) (i : Int), mxI i l ∈ i :: l ∧ ∀ y ∈ i :: l, y ≤ mxI i l
  | [], i => ⟨List.mem_cons_self, fun y hy => by obtain rfl := List.mem_singleton.mp hy; exact Int.le_refl _⟩
  | j :: l, i => by
    obtain ⟨h1, h2⟩ := mxI_ok l (if j > i then j else i)
    rw [mxI]
    by_cases c : j > i
    · rw [if_pos c] at h1 h2 ⊢
      refine ⟨List.mem_cons_of_mem _ h1, fun y hy => ?_⟩
      rcases List.mem_cons.mp hy with rfl | hy
      · have := h2 j List.mem_cons_self; omega
      · exact h2 y hy
    · rw [if_neg c] at h1 h2 ⊢
      refine ⟨?_, fun y hy => ?_⟩
      · rcases List.mem_cons.mp h1 with e | h1
        · rw [e]; exact List.mem_cons_self
        · exact List.mem_cons_of_mem _ (List.mem_cons_of_mem _ h1)
      · rcases List.mem_cons.mp hy with rfl | hy
        · exact h2 _ List.mem_cons_self
        · rcases List.mem_cons.mp hy with rfl | hy
          · have := h2 i List.mem_cons_self; omega
          · exact h2 y (List.mem_cons_of_mem _ hy)
theorem mxI_uniq {i m : Int} {l : List Int} (hm : m ∈ i :: l) (hy : ∀ y, y ∈ i :: l → y ≤ m) : m = mxI i l := by
  obtain ⟨h1, h2⟩ := mxI_ok l i
  exact Int.le_antisymm (h2 m hm) (hy _ h1)
theorem mnI_ok : ∀ (l : List Int) (i : Int), mnI i l ∈ i :: l ∧ ∀ y ∈ i :: l, mnI i l ≤ y
  | [], i => ⟨List.mem_cons_self, fun y hy => by obtain rfl := List.mem_singleton.mp hy; exact Int.le_refl _⟩
  | j :: l, i => by
    obtain ⟨h1, h2⟩ := mnI_ok l (if j < i then j else i)
    rw [mnI]
    by_cases c : j < i
    · rw [if_pos c] at h1 h2 ⊢
      refine ⟨List.mem_cons_of_mem _ h1, fun y hy => ?_⟩
      rcases List.mem_cons.mp hy with rfl | hy
      · have := h2 j List.mem_cons_self; omega
      · exact h2 y hy
    · rw [if_neg c] at h1 h2 ⊢
      refine ⟨?_, fun y hy => ?_⟩
      · rcases List.mem_cons.mp h1 with e | h1
        · rw [e]; exact List.mem_cons_self
        · exact List.mem_cons_of_mem _ (List.mem_cons_of_mem _ h1)
      · rcases List.mem_cons.mp hy with rfl | hy
        · exact h2 _ List.mem_cons_self
        · rcases List.mem_cons.mp hy with rfl | hy
          · have := h2 i List.mem_cons_self; omega
          · exact h2 y (List.mem_cons_of_mem _ hy)
theorem mnI_uniq {i m : Int} {l : List Int} (hm : m ∈ i :: l) (hy : ∀ y, y ∈ i :: l → m ≤ y) : m = mnI i l := by
  obtain ⟨h1, h2⟩ := mnI_ok l i
  exact Int.le_antisymm (hy _ h1) (h2 m hm)
/-! ### shown -/
mutual
theorem shw_dp {K : Frag} {H : Hp} : ∀ {d : D} {n : Nat} {v : V}, D.shw n d = true → Rp K H v d → Dp K H v d.py
  | .non, _, _, _, .non => .non
  | .bl _, _, _, _, .bl _ => .bl _
  | .int _, _, _, _, .int _ => .int _
  | .str _, _, _, _, .str _ => .str _
  | .lst ds, 0, _, h, _ => by simp [D.shw] at h
  | .lst ds, n + 1, _, h, .lst q r => by rw [D.py]; exact .lst (.of q) (shws_dp (by simpa [D.shw] using h) r)
  | .tup ds, 0, _, h, _ => by simp [D.shw] at h
  | .tup ds, n + 1, _, h, .tup q r => by rw [D.py]; exact .tup q (shws_dp (by simpa [D.shw] using h) r)
  | .dic _, n, _, h, _ => by simp [D.shw] at h
  | .scr _, n, _, h, _ => by simp [D.shw] at h
theorem shws_dp {K : Frag} {H : Hp} : ∀ {ds : List D} {n : Nat} {vs : List V}, D.shws n ds = true → Rps K H vs ds → DpAll K H vs (D.pys ds)
  | [], _, _, _, .nil => .nil
  | d :: ds, n, _, h, .cons q r => by
    rw [D.shws, Bool.and_eq_true] at h
    rw [D.pys]
    exact .cons (shw_dp h.1 q) (shws_dp h.2 r)
end
mutual
theorem shw_ok : ∀ {d : D} {n : Nat}, D.shw n d = true → d.py.showable = true ∧ d.py.hasDict = false ∧ d.py.leavesShort 13 = true ∧ d.py.depth ≤ n ∧ d.py.weight ≤ d.wt
  | .non, n, _ => by simp [D.py, PyData.showable, PyData.hasDict, PyData.leavesShort, PyData.depth, PyData.weight]
  | .bl _, n, _ => by simp [D.py, PyData.showable, PyData.hasDict, PyData.leavesShort, PyData.depth, PyData.weight]
  | .int i, n, h => by
    have h : i.natAbs < 1000000000000 := by simpa [D.shw] using h
    have l1 : i.natAbs.log2 < 40 := by
      by_cases z : i.natAbs = 0
      · rw [z]; decide
      · exact (Nat.log2_lt z).mpr (Nat.lt_trans h (by decide))
    refine ⟨?_, by simp [D.py, PyData.hasDict], ?_, by simp [D.py, PyData.depth], ?_⟩
    · simp only [D.py, PyData.showable, decide_eq_true_eq]; omega
    · simp only [D.py, PyData.leavesShort, decide_eq_true_eq]
      exact PyData.shown_int_le h
    · simp only [D.py, PyData.weight, D.wt]
      split
      · exact Nat.zero_le _
      · rename_i z
        have z : i.natAbs ≠ 0 := by intro q; apply z; simp; omega
        split
        · rename_i q
          have := (Nat.log2_lt z).mpr (show i.natAbs < 2 ^ 4 from q)
          omega
        · omega
  | .str s, n, h => by
    have h : s.cps.all (· < 0x110000) = true := by simpa only [D.shw] using h
    refine ⟨by simp [D.py, PyData.showable], by simp [D.py, PyData.hasDict], ?_, by simp [D.py, PyData.depth], by simp [D.py, PyData.weight, D.wt]⟩
    simp only [D.py, PyData.leavesShort, List.all_eq_true, decide_eq_true_eq]
    intro c hc
    have := (Array.all_eq_true_iff_forall_mem.mp h) c (Array.mem_toList_iff.mp hc)
    have e : (16 : Nat) ^ 8 = 4294967296 := by decide
    simp at this
    omega
  | .lst ds, 0, h => by simp [D.shw] at h
  | .lst ds, n + 1, h => by
    obtain ⟨h1, h2, h3, h4, h5⟩ := shws_ok (ds := ds) (n := n) (by simpa [D.shw] using h)
    simp only [D.py, PyData.showable, PyData.hasDict, PyData.leavesShort, PyData.depth, PyData.weight, D.wt]
    exact ⟨h1, h2, h3, by omega, h5⟩
  | .tup ds, 0, h => by simp [D.shw] at h
  | .tup ds, n + 1, h => by
    obtain ⟨h1, h2, h3, h4, h5⟩ := shws_ok (ds := ds) (n := n) (by simpa [D.shw] using h)
    simp only [D.py, PyData.showable, PyData.hasDict, PyData.leavesShort, PyData.depth, PyData.weight, D.wt]
    exact ⟨h1, h2, h3, by omega, h5⟩
  | .dic _, n, h => by simp [D.shw] at h
  | .scr _, n, h => by simp [D.shw] at h
theorem shws_ok : ∀ {ds : List D} {n : Nat}, D.shws n ds = true → PyData.showableAll (D.pys ds) = true ∧ PyData.hasDictAll (D.pys ds) = false ∧ PyData.leavesShortAll 13 (D.pys ds) = true ∧ PyData.depthAll (D.pys ds) ≤ n ∧ PyData.weightAll (D.pys ds) ≤ D.wts ds
  | [], n, _ => by simp [D.pys, PyData.showableAll, PyData.hasDictAll, PyData.leavesShortAll, PyData.depthAll, PyData.weightAll, D.wts]
  | d :: ds, n, h => by
    rw [D.shws, Bool.and_eq_true] at h
    obtain ⟨a1, a2, a3, a4, a5⟩ := shw_ok h.1
    obtain ⟨b1, b2, b3, b4, b5⟩ := shws_ok h.2
    simp only [D.pys, PyData.showableAll, PyData.hasDictAll, PyData.leavesShortAll, PyData.depthAll, PyData.weightAll, D.wts, a1, a2, a3, b1, b2, b3]
    exact ⟨rfl, rfl, rfl, by omega, by omega⟩
end
theorem call_reprD {X : Cx} (gd : X.A.guards = some []) (hu : X.A.units + 64 < cLine) : CallR X (.builtin "repr") (fun xs H Q => ∃ v d, xs = [v] ∧ Dp X.K H v d ∧ d.showable = true ∧ d.hasDict = false ∧ d.shown.length ≤ sizeLine ∧ d.depth ≤ 20 ∧ Q (.str d.shown) H) := by
  intro pins s σ H xs us Q I r h
  obtain ⟨v, d, rfl, hd, hs, hn, hz, hdep, q⟩ := h
  obtain ⟨u, rfl, ru⟩ := vals1 r
  have at_ : ∀ a, u = .ref a → wpAny (model X.prog X.w) X.A (call (.builtin "repr") [u]) (EP X pins σ Q) X.xe s := fun a e => by
    subst e
    obtain ⟨as, rr⟩ := Dp.reads I d v _ hd ru
    exact repr_of_reads' rr hs (fun z => by rw [hn] at z; cases z) gd (by omega) (fun _ _ e => e) (fun h' w tk k => ⟨.str d.shown, H, I.kept k, ⟨w, rfl⟩, q⟩) hz
  cases hd with
  | non => cases ru; exact PySem.P.repr_of_none ⟨.str _, H, I.tok _, ⟨_, rfl⟩, by simpa [PyData.shown] using q⟩
  | bl b => cases ru; exact PySem.P.repr_of_bool ⟨.str _, H, I.tok _, ⟨_, rfl⟩, by simpa [PyData.shown] using q⟩
  | int i => obtain ⟨t, rfl⟩ := ru; exact PySem.P.repr_of_int (by simpa [PyData.showable] using hs) ⟨.str _, H, I.tok _, ⟨_, rfl⟩, by simpa [PyData.shown] using q⟩
  | str z => obtain ⟨t, rfl⟩ := ru; exact PySem.P.repr_of_str ⟨.str _, H, I.tok _, ⟨_, rfl⟩, by simpa [PyData.shown] using q⟩ (by simpa [PyData.shown] using hz)
  | _ => cases ru; exact at_ _ rfl
theorem bfv_ok {X : Cx} (gd : X.A.guards = some []) (hc : X.calm = true) (hu : X.A.units + 64 < cLine) {f : Bf} {xs : List D} {z : RV} (e : bfv f xs = some z) : ∃ r, CallR X f.fn r ∧ DoesL X.K r xs z := by
  unfold bfv at e
  split at e
  · cases e
    rename_i i
    refine ⟨_, call_abs, fun b σ H ρ F ad vs Q R hx h => ?_⟩
    obtain ⟨v, rfl, hv⟩ := hx.one
    obtain rfl := hv
    refine ⟨i, rfl, ?_⟩
    have : (if i < 0 then -i else i) = (i.natAbs : Int) := by split <;> omega
    rw [this]
    exact h.imm R (.int _)
  · cases e
    rename_i i
    refine ⟨_, call_int1, fun b σ H ρ F ad vs Q R hx h => ?_⟩
    obtain ⟨v, rfl, hv⟩ := hx.one
    obtain rfl := hv
    exact .inl ⟨i, rfl, h.imm R (.int _)⟩
  · cases e
    rename_i i
    refine ⟨_, call_int1, fun b σ H ρ F ad vs Q R hx h => ?_⟩
    obtain ⟨v, rfl, hv⟩ := hx.one
    obtain rfl := hv
    exact .inr ⟨i, rfl, h.imm R (.int _)⟩
  · cases e
    refine ⟨_, call_len_seq, fun b σ H ρ F ad vs Q R hx h => ?_⟩
    obtain ⟨v, rfl, hv⟩ := hx.one
    obtain ⟨a, us, rfl, h1, r1⟩ := hv
    refine ⟨a, us, rfl, .inl (.of h1), ?_⟩
    rw [r1.length]
    exact h.imm R (.int _)
  · cases e
    refine ⟨_, call_len_seq, fun b σ H ρ F ad vs Q R hx h => ?_⟩
    obtain ⟨v, rfl, hv⟩ := hx.one
    obtain ⟨a, us, rfl, h1, r1⟩ := hv
    refine ⟨a, us, rfl, .inr (Same.seqT R.sub h1), ?_⟩
    rw [r1.length]
    exact h.imm R (.int _)
  · cases e
    rename_i ns
    refine ⟨_, call_len_seq, fun b σ H ρ F ad vs Q R hx h => ?_⟩
    obtain ⟨v, rfl, hv⟩ := hx.one
    obtain ⟨a, rfl, h1⟩ := hv
    refine ⟨a, _, rfl, .inl (Same.seqL R.sub h1), ?_⟩
    rw [List.length_map]
    exact h.imm R (.int _)
  · cases e
    have l : ∀ {F : Hp} {vs : List (Key × V)} {ds : List (D × D)}, KRps X.K F vs ds → vs.length = ds.length := fun {F vs ds} r => by
      induction ds generalizing vs with
      | nil => cases r; rfl
      | cons d ds ih => cases r with | cons _ r => exact congrArg Nat.succ (ih r)
    refine ⟨_, call_lenD.or call_lenN, fun b σ H ρ F ad vs Q R hx h => ?_⟩
    obtain ⟨v, rfl, hv⟩ := hx.one
    rcases hv with ⟨a, us, rfl, h1, r1⟩ | ⟨a, od, us, rfl, h1, r1⟩
    · refine .inl ⟨a, us, rfl, h1, ?_⟩
      rw [l r1]
      exact h.imm R (.int _)
    · refine .inr ⟨F, a, us, _, rfl, R.sub, ⟨r1, .inl ⟨od, h1⟩⟩, ?_⟩
      rw [r1.length]
      exact h.imm R (.int _)
  · obtain ⟨l, hl, rfl⟩ := Option.map_eq_some_iff.mp e
    refine ⟨_, cr_all hc, fun b σ H ρ F ad vs Q R hx h => ?_⟩
    obtain ⟨v, rfl, hv⟩ := hx.one
    rw [blsOf_eq hl] at hv
    obtain ⟨a, us, rfl, h1, r1⟩ := hv
    obtain rfl := r1.bls
    exact ⟨a, l, rfl, .of h1, h.imm R (.bl _)⟩
  · obtain ⟨l, hl, rfl⟩ := Option.map_eq_some_iff.mp e
    refine ⟨_, cr_any hc, fun b σ H ρ F ad vs Q R hx h => ?_⟩
    obtain ⟨v, rfl, hv⟩ := hx.one
    rw [blsOf_eq hl] at hv
    obtain ⟨a, us, rfl, h1, r1⟩ := hv
    obtain rfl := r1.bls
    exact ⟨a, l, rfl, .of h1, h.imm R (.bl _)⟩
  · cases e
    refine ⟨_, call_max2 hc, fun b σ H ρ F ad vs Q R hx h => ?_⟩
    obtain ⟨v, w, rfl, hv, hw⟩ := hx.two
    obtain rfl := hv; obtain rfl := hw
    exact ⟨_, _, rfl, h.imm R (.int _)⟩
  · cases e
    refine ⟨_, call_min2 hc, fun b σ H ρ F ad vs Q R hx h => ?_⟩
    obtain ⟨v, w, rfl, hv, hw⟩ := hx.two
    obtain rfl := hv; obtain rfl := hw
    exact ⟨_, _, rfl, h.imm R (.int _)⟩
  · split at e
    · cases e
      rename_i i j hz
      refine ⟨_, call_divmodW, fun b σ H ρ F ad vs Q R hx h => ?_⟩
      obtain ⟨v, w, rfl, hv, hw⟩ := hx.two
      obtain rfl := hv; obtain rfl := hw
      have hd : L2.CDivP i j := ⟨hz.1, PyProof.noPylong_of_log2 (Nat.lt_of_lt_of_le (PySem.Flt.log2_lt_of (by decide : 0 < 8000) hz.2) (by decide))⟩
      refine ⟨i, j, rfl, hd, ?_⟩
      have e1 : i.fdiv j = i / j := Int.fdiv_eq_ediv_of_nonneg i (by omega)
      have e2 : i.fmod j = i % j := Int.fmod_eq_emod_of_nonneg i (by omega)
      rw [e1, e2] at h
      exact h.newT R (.cons (.int _) (.cons (.int _) .nil))
    · cases e
  · split at e
    · rename_i d hz
      cases e
      rw [Bool.and_eq_true, decide_eq_true_eq] at hz
      obtain ⟨q1, q2, q3, q4, q5⟩ := shw_ok hz.1
      refine ⟨_, call_reprD gd hu, fun b σ H ρ F ad vs Q R hx h => ?_⟩
      obtain ⟨v, rfl, hv⟩ := hx.one
      exact ⟨v, _, rfl, shw_dp hz.1 (hv.rp R.sub), q1, q2, PyData.shown_fits (by decide) (by decide) q3 (Nat.le_trans q5 (Nat.le_trans hz.2 (by decide))), q4, h.imm R (.str _)⟩
    · cases e
  · obtain ⟨l, hl, rfl⟩ := Option.map_eq_some_iff.mp e
    refine ⟨_, cr_sum hc, fun b σ H ρ F ad vs Q R hx h => ?_⟩
    obtain ⟨v, rfl, hv⟩ := hx.one
    rw [intsOf_eq hl] at hv
    obtain ⟨a, us, rfl, h1, r1⟩ := hv
    obtain rfl := r1.ints
    exact ⟨a, l, rfl, .of h1, h.imm R (.int _)⟩
  · cases e
    refine ⟨_, call_list_of, fun b σ H ρ F ad vs Q R hx h => ?_⟩
    obtain ⟨v, rfl, hv⟩ := hx.one
    obtain ⟨a, us, rfl, h1, r1⟩ := hv
    exact ⟨a, us, rfl, .inl (.of h1), h.newL R r1⟩
  · cases e
    refine ⟨_, call_list_of, fun b σ H ρ F ad vs Q R hx h => ?_⟩
    obtain ⟨v, rfl, hv⟩ := hx.one
    obtain ⟨a, us, rfl, h1, r1⟩ := hv
    exact ⟨a, us, rfl, .inr (Same.seqT R.sub h1), h.newL R r1⟩
  · cases e
    refine ⟨_, call_tuple_of, fun b σ H ρ F ad vs Q R hx h => ?_⟩
    obtain ⟨v, rfl, hv⟩ := hx.one
    obtain ⟨a, us, rfl, h1, r1⟩ := hv
    exact ⟨a, us, rfl, .inl ⟨.of h1, h.newT R r1⟩⟩
  · cases e
    refine ⟨_, call_tuple_of, fun b σ H ρ F ad vs Q R hx h => ?_⟩
    obtain ⟨v, rfl, hv⟩ := hx.one
    obtain ⟨a, us, rfl, h1, r1⟩ := hv
    exact ⟨a, us, rfl, .inr ⟨Same.seqT R.sub h1, h.imm R (.tup h1 r1)⟩⟩
  · split at e
    · rename_i l hl
      cases e
      refine ⟨_, cr_sortedI, fun b σ H ρ F ad vs Q R hx h => ?_⟩
      obtain ⟨v, rfl, hv⟩ := hx.one
      rw [intsOf_eq hl] at hv
      obtain ⟨a, us, rfl, h1, r1⟩ := hv
      obtain rfl := r1.ints
      refine ⟨a, l, rfl, .of h1, fun ns p hp hs hn => ?_⟩
      rw [sortI_eq hp hs]
      exact h.newL R (Rps.ofInts _) p hn
    · split at e
      · rename_i hz
        cases e
        refine ⟨_, cr_sortD hu, fun b σ H ρ F ad vs Q R hx h => ?_⟩
        obtain ⟨v, rfl, hv⟩ := hx.one
        obtain ⟨a, us, rfl, h1, r1⟩ := hv
        exact ⟨F, a, us, _, rfl, .of h1, R.sub, r1, hz, fun p ys hp ry => h.newL R ry p hp⟩
      · cases e
  · split at e
    · rename_i hz
      cases e
      rw [Bool.and_eq_true, Bool.and_eq_true] at hz
      refine ⟨_, cr_sortN hc hu, fun b σ H ρ F ad vs Q R hx h => ?_⟩
      obtain ⟨v, rfl, hv⟩ := hx.one
      obtain ⟨a, us, rfl, g⟩ := atN_of hv hz.1.1
      exact ⟨F, a, us, _, rfl, R.sub, g, hz.2, fun p ys hp ry => h.newL R ry p hp⟩
    · cases e
  · obtain ⟨l, hl, rfl⟩ := Option.map_eq_some_iff.mp e
    refine ⟨_, cr_dictP hc hu, fun b σ H ρ F ad vs Q R hx h => ?_⟩
    obtain ⟨v, rfl, hv⟩ := hx.one
    obtain ⟨a, us, rfl, h1, r1⟩ := hv
    exact ⟨F, a, us, _, l, rfl, .of h1, R.sub, r1, hl, fun p od kvs hp ry => h (.ref p) _ F (R.alloc hp) (Same.refl _) ⟨p, rfl, R.free hp, .inr ⟨od, kvs, upd_same, ry⟩, R.celN hp, R.dom p hp⟩⟩
  · split at e
    · rename_i i l hl
      cases e
      refine ⟨_, cr_max hc, fun b σ H ρ F ad vs Q R hx h => ?_⟩
      obtain ⟨v, rfl, hv⟩ := hx.one
      rw [intsOf_eq hl] at hv
      obtain ⟨a, us, rfl, h1, r1⟩ := hv
      obtain rfl := r1.ints
      refine ⟨a, i :: l, rfl, .of h1, Nat.succ_pos _, fun m hm hy => ?_⟩
      rw [mxI_uniq hm hy]
      exact h.imm R (.int _)
    · cases e
  · split at e
    · rename_i i l hl
      cases e
      refine ⟨_, cr_min hc, fun b σ H ρ F ad vs Q R hx h => ?_⟩
      obtain ⟨v, rfl, hv⟩ := hx.one
      rw [intsOf_eq hl] at hv
      obtain ⟨a, us, rfl, h1, r1⟩ := hv
      obtain rfl := r1.ints
      refine ⟨a, i :: l, rfl, .of h1, Nat.succ_pos _, fun m hm hy => ?_⟩
      rw [mnI_uniq hm hy]
      exact h.imm R (.int _)
    · cases e
  · cases e
end Z

set_option linter.all false
set_option autoImplicit false
set_option Elab.async false
set_option maxRecDepth 100000
/-! Z, part 7: expressions: what the evaluator says, the machine does. -/
namespace Z
open PySem PySem.Spec PyProof.Rows L2
section
variable {X : Cx} {C : Cf} {pos : Pos}
/-- an answer at once -/
theorem tD.now {K : Frag} {f : Env → Option (RV × Env)} {b : Bs} {σ : St} {H : Hp} {ρ : Env} {F : Hp} {ad : Nat → Addr} {Q : VK} {r : RV} {ρ' : Env} (B : BoOk b) (R : Rl K b σ H ρ F ad) (e : f ρ = some (r, ρ'))
    (h : ∀ v H' F', Rl K b σ H' ρ' F' ad → Same F F' → RvR K b σ H' ρ' F' ad v r → Q v H') : tD K f σ H Q := ⟨b, ρ, F, ad, r, ρ', B, R, e, h⟩
/-- one value, then another one -/
theorem tD.two {K : Frag} {f g : Env → Option (RV × Env)} {b : Bs} {σ : St} {H : Hp} {ρ ρ1 ρ2 : Env} {F : Hp} {ad : Nat → Addr} {r q : RV} {P : V → V → Hp → Prop} (B : BoOk b) (R : Rl K b σ H ρ F ad) (e1 : f ρ = some (r, ρ1)) (e2 : g ρ1 = some (q, ρ2))
    (h : ∀ v w H' F', Rl K b σ H' ρ2 F' ad → Same F F' → Hd K σ F' v r → RvR K b σ H' ρ2 F' ad w q → P v w H') : tD K f σ H fun x H1 => tD K g σ H1 fun y H2 => P x y H2 :=
  .now B R e1 fun v H1 F1 R1 s1 x1 => by
    obtain ⟨F1', R1', s1', d1⟩ := R1.hold x1
    exact .now B R1' e2 fun w H2 F2 R2 s2 x2 => h v w H2 F2 R2 (s1.trans (s1'.trans s2)) (d1.mono s2) x2
theorem snd_cst_int {i : Int} {j : Nat} : PE X (.Constant (.int i) j pos) (tD X.K <| ev C <| .cst (.int i)) := pe_int.imp fun σ H Q ⟨b, ρ, F, ad, r, ρ', B, R, e, h⟩ => by
  cases e; exact h _ H F R (Same.refl _) (.int i)
theorem snd_cst_bool {i : Bool} {j : Nat} : PE X (.Constant (.bool i) j pos) (tD X.K <| ev C <| .cst (.bl i)) := pe_bl.imp fun σ H Q ⟨b, ρ, F, ad, r, ρ', B, R, e, h⟩ => by
  cases e; exact h _ H F R (Same.refl _) (.bl i)
theorem snd_cst_none {j : Nat} : PE X (.Constant .none j pos) (tD X.K <| ev C <| .cst .non) := pe_non.imp fun σ H Q ⟨b, ρ, F, ad, r, ρ', B, R, e, h⟩ => by
  cases e; exact h _ H F R (Same.refl _) .non
theorem snd_cst_str {i : Str} {j : Nat} : PE X (.Constant (.str i) j pos) (tD X.K <| ev C <| .cst (.str i)) := pe_str.imp fun σ H Q ⟨b, ρ, F, ad, r, ρ', B, R, e, h⟩ => by
  cases e; exact h _ H F R (Same.refl _) (.str i)
theorem snd_var {i : Nat} {x : Str} (hN : X.N[i]? = some x) (hv : Vis X.env.scope x) (hd : (x == ("__debug__" : Str)) = false) (hcd : (x == ("__classdict__" : Str)) = false) : PE X (.Name x pos) (tD X.K <| ev C <| .var i) :=
  (pe_var hN hv hd hcd).imp fun σ H Q ⟨b, ρ, F, ad, r, ρ', B, R, e, h⟩ => by
    simp only [ev] at e
    split at e
    · rename_i d q
      cases e
      obtain ⟨v, q1, q2⟩ := R.val i d q
      exact ⟨v, q1, h v H F R (Same.refl _) q2⟩
    · rename_i d q
      cases e
      obtain ⟨q1, _, _⟩ := R.cel i _ d q rfl
      exact ⟨_, q1, h _ H F R (Same.refl _) q1⟩
    · rename_i d q
      cases e
      obtain ⟨q1, _, _⟩ := R.cel i _ d q rfl
      exact ⟨_, q1, h _ H F R (Same.refl _) q1⟩
    · cases e
/-- a constant of the module -/
theorem snd_gl {x : Str} {d : D} {v : V} {u : Value} (hg : Gl X x) (hm : X.mg x = some u) (r : RelV v u) (hd : (x == ("__debug__" : Str)) = false) (hp : ∀ F, Rp X.K F v d) : PE X (.Name x pos) (tD X.K <| ev C <| .gl x d) :=
  (pe_glob hg hm r hd).imp fun σ H Q ⟨b, ρ, F, ad, r, ρ', B, R, e, h⟩ => by
    cases e; exact h _ H F R (Same.refl _) (hp F)
/-! ### lists of expressions -/
theorem snd_nil : PA X [] (tDs X.K (evs C .nil)) := pa_nil.imp fun σ H Q ⟨b, ρ, F, ad, r, ρ', B, R, e, h⟩ => by
  cases e; exact h _ H F R (Same.refl _) .nil
theorem snd_cons {e : Expr} {es : List Expr} {se : Ex} {ses : Exs} (h1 : PE X e (tD X.K <| ev C <| se)) (h2 : PA X es (tDs X.K (evs C ses))) (hs : starEach (e :: es) X.env = (false, eval e X.env) :: starEach es X.env) : PA X (e :: es) (tDs X.K (evs C (.cons se ses))) :=
  (pa_cons h1 h2 hs).imp fun σ H Q ⟨b, ρ, F, ad, r, ρ', B, R, e, h⟩ => by
    simp only [evs] at e
    split at e
    · rename_i r1 ρ1 e1
      split at e
      · rename_i rs ρ2 e2
        cases e
        refine .now B R e1 fun v H1 F1 R1 s1 x1 => ?_
        obtain ⟨F1', R1', s1', d1⟩ := R1.hold x1
        exact ⟨b, ρ1, F1', ad, rs, _, B, R1', e2, fun vs H2 F2 R2 s2 x2 => h (v :: vs) H2 F2 R2 (s1.trans (s1'.trans s2)) (.cons (d1.mono s2) x2)⟩
      · cases e
    · cases e
/-- what is held is kept elsewhere -/
theorem Rl.stls {K : Frag} {b : Bs} {σ : St} {H : Hp} : ∀ {rs : List RV} {vs : List V} {ds : List D} {ρ ρ' : Env} {F : Hp} {ad : Nat → Addr}, Rl K b σ H ρ F ad → Hds K σ F vs rs → rds ρ rs = some ds → stls ρ rs = some ρ' →
    ∃ F', Rl K b σ H ρ' F' ad ∧ Same F F' ∧ Rps K F' vs ds
  | [], _, ds, ρ, ρ', F, ad, R, .nil, e1, e2 => by cases e1; cases e2; exact ⟨F, R, Same.refl _, .nil⟩
  | r :: rs, _, ds, ρ, ρ', F, ad, R, .cons x xs, e1, e2 => by
    unfold Z.stls at e2
    unfold rds at e1
    cases q : Z.stl ρ r with
    | none => rw [q] at e2; cases e2
    | some p =>
      obtain ⟨d, ρ1⟩ := p
      rw [q] at e2
      rw [stl_rd q] at e1
      dsimp only at e1 e2
      obtain ⟨F1, R1, s1, p1⟩ := R.stl x q
      cases q2 : rds ρ rs with
      | none => rw [q2] at e1; cases e1
      | some dr =>
        rw [q2] at e1
        cases e1
        have q3 : rds ρ1 rs = some dr := by
          rw [← q2]
          exact (rds_stl q rs)
        obtain ⟨F2, R2, s2, p2⟩ := Rl.stls R1 (xs.mono s1) q3 e2
        exact ⟨F2, R2, s1.trans s2, .cons (p1.mono s2) p2⟩
where
  rd_stl {ρ ρ1 : Env} {r : RV} {d : D} (q : Z.stl ρ r = some (d, ρ1)) (t : RV) : rd ρ1 t = rd ρ t := by
    cases r with
    | val => cases q; rfl
    | new => cases q; rfl
    | «at» i =>
      unfold Z.stl at q
      dsimp only at q
      cases z : ρ[i]? with
      | none => rw [z] at q; cases q
      | some s =>
        rw [z] at q
        cases s with
        | no => cases q
        | bor _ => cases q
        | val _ => cases q; rfl
        | own d' =>
          cases q
          cases t with
          | val => rfl
          | new => rfl
          | «at» j =>
            unfold rd
            dsimp only
            by_cases hj : j = i
            · subst hj
              rw [List.getElem?_set_self (List.getElem?_eq_some_iff.mp z).1, z]
            · rw [List.getElem?_set_ne (Ne.symm hj)]
  rds_stl {ρ ρ1 : Env} {r : RV} {d : D} (q : Z.stl ρ r = some (d, ρ1)) : ∀ rs, rds ρ1 rs = rds ρ rs
    | [] => rfl
    | t :: ts => by
      unfold rds
      rw [rd_stl q t, rds_stl q ts]
/-- what is held, read now -/
theorem Rl.looks {K : Frag} {b : Bs} {σ : St} {H : Hp} {ρ : Env} {F : Hp} {ad : Nat → Addr} (R : Rl K b σ H ρ F ad) : ∀ {rs : List RV} {vs : List V} {ds : List D}, Hds K σ F vs rs → rds ρ rs = some ds → Lks K F H vs ds
  | [], _, ds, .nil, e1 => by cases e1; trivial
  | r :: rs, _, ds, .cons x xs, e1 => by
    unfold rds at e1
    cases q : rd ρ r with
    | none => rw [q] at e1; cases e1
    | some d =>
      rw [q] at e1
      cases q2 : rds ρ rs with
      | none => rw [q2] at e1; cases e1
      | some dr =>
        rw [q2] at e1
        cases e1
        exact ⟨R.look x q, R.looks xs q2⟩
theorem snd_tup {es : List Expr} {ses : Exs} {k : Nat} (h : PA X es (tDs X.K (evs C ses))) (hz : ∀ ρ rs ρ1, evs C ses ρ = some (rs, ρ1) → rs.length ≤ LL) : PE X (.Tuple es k pos) (tD X.K <| ev C <| .tup ses) :=
  (pe_tup h).imp fun σ H Q ⟨b, ρ, F, ad, r, ρ', B, R, e, h⟩ => by
    simp only [ev] at e
    split at e
    · rename_i rs ρ1 e1
      split at e
      · rename_i ds ρ2 e2 e3
        cases e
        refine ⟨b, ρ, F, ad, rs, ρ1, B, R, e1, fun vs H1 F1 R1 s1 x1 => ?_⟩
        obtain ⟨F2, R2, s2, p2⟩ := R1.stls x1 e2 e3
        refine ⟨?_, Post.newT R2 (fun v H' F' R' s' x' => h v H' F' R' (s1.trans (s2.trans s')) x') p2⟩
        rw [x1.length]
        exact LL_le (hz _ _ _ e1)
      · cases e
    · cases e
theorem snd_lst {es : List Expr} {ses : Exs} (h : PA X es (tDs X.K (evs C ses))) (hz : ∀ ρ rs ρ1, evs C ses ρ = some (rs, ρ1) → rs.length ≤ LL) : PE X (.List es pos) (tD X.K <| ev C <| .lst ses) :=
  (pe_lst h).imp fun σ H Q ⟨b, ρ, F, ad, r, ρ', B, R, e, h⟩ => by
    simp only [ev] at e
    split at e
    · rename_i rs ρ1 e1
      split at e
      · rename_i ds ρ2 e2 e3
        cases e
        refine ⟨b, ρ, F, ad, rs, ρ1, B, R, e1, fun vs H1 F1 R1 s1 x1 => ?_⟩
        obtain ⟨F2, R2, s2, p2⟩ := R1.stls x1 e2 e3
        refine ⟨?_, Post.newL R2 (fun v H' F' R' s' x' => h v H' F' R' (s1.trans (s2.trans s')) x') p2⟩
        rw [x1.length]
        exact LL_le (hz _ _ _ e1)
      · cases e
    · cases e
def Exs.len : Exs → Nat
  | .nil => 0
  | .cons _ es => es.len + 1
theorem evs_len : ∀ (es : Exs) {ρ : Env} {rs : List RV} {ρ1 : Env}, evs C es ρ = some (rs, ρ1) → rs.length = es.len
  | .nil, _, _, _, e => by cases e; rfl
  | .cons e' es, ρ, rs, ρ1, e => by
    simp only [evs] at e
    split at e
    · split at e
      · rename_i rs2 ρ2 e2
        cases e
        exact congrArg Nat.succ (evs_len es e2)
      · cases e
    · cases e
/-! ### operators -/
variable {a c d : Expr} {sa sc sd : Ex}
theorem snd_bin {op : Operator} (ha : PE X a (tD X.K <| ev C <| sa)) (hc : PE X c (tD X.K <| ev C <| sc)) : PE X (.BinOp a op c pos) (tD X.K <| ev C <| .bin op sa sc) := PE.case fun σ H Q ⟨b, ρ, F, ad, r, ρ', B, R, e, h⟩ => by
  simp only [ev] at e
  split at e
  · rename_i r1 ρ1 e1
    split at e
    · rename_i q1 ρ2 e2
      split at e
      · rename_i x y ex ey
        obtain ⟨z, ez, eq⟩ := Option.map_eq_some_iff.mp e
        cases eq
        obtain ⟨rr, ok, does⟩ := bop_ok (X := X) ez
        refine ⟨_, pe_op ok ha hc, tD.two B R e1 e2 fun v w H' F' R' s' d1 x2 => ?_⟩
        obtain ⟨F2, R2, s2, d2⟩ := R'.hold x2
        exact does b σ H' _ F2 ad v w Q R2 (R2.look (d1.mono s2) ex) (R2.look d2 ey) fun v H'' F'' R'' s'' x'' => h v H'' F'' R'' (s'.trans (s2.trans s'')) x''
      · cases e
    · cases e
  · cases e
theorem cmp_rd {k : Nat} (hr : Room k X.A) {op : CmpOp} (σ : St) (H : Hp) (Q : VK) : tD X.K (ev C (.cmp op sa sc)) σ H Q → ∃ rr, OpR X (compareOp op) rr ∧ tOp rr (tD X.K <| ev C <| sa) (tD X.K <| ev C <| sc) σ H Q := fun ⟨b, ρ, F, ad, r, ρ', B, R, e, h⟩ => by
  simp only [ev] at e
  split at e
  · rename_i r1 ρ1 e1
    split at e
    · rename_i q1 ρ2 e2
      split at e
      · rename_i x y ex ey
        obtain ⟨z, ez, eq⟩ := Option.map_eq_some_iff.mp e
        cases eq
        obtain ⟨rr, ok, does⟩ := cop_ok hr ez
        refine ⟨_, ok, tD.two B R e1 e2 fun v w H' F' R' s' d1 x2 => ?_⟩
        obtain ⟨F2, R2, s2, d2⟩ := R'.hold x2
        exact does b σ H' _ F2 ad v w Q R2 (R2.look (d1.mono s2) ex) (R2.look d2 ey) fun v H'' F'' R'' s'' x'' => h v H'' F'' R'' (s'.trans (s2.trans s'')) x''
      · cases e
    · cases e
  · cases e
theorem snd_cmp {k : Nat} (hr : Room k X.A) {op : CmpOp} (ha : PE X a (tD X.K <| ev C <| sa)) (hc : PE X c (tD X.K <| ev C <| sc)) (hm : behindInMarks op c = false) : PE X (.Compare a [op] [c] pos) (tD X.K <| ev C <| .cmp op sa sc) := PE.case fun σ H Q q => by
  obtain ⟨rr, ok, q⟩ := cmp_rd hr σ H Q q
  exact ⟨_, pe_cmpR ok ha hc hm, q⟩
theorem snd_neg (ha : PE X a (tD X.K <| ev C <| sa)) : PE X (.UnaryOp .USub a pos) (tD X.K <| ev C <| .neg sa) := (pe_un un_neg ha).imp fun σ H Q ⟨b, ρ, F, ad, r, ρ', B, R, e, h⟩ => by
  simp only [ev] at e
  split at e
  · rename_i i ρ1 e1
    cases e
    refine .now B R e1 fun v H1 F1 R1 s1 x1 => ?_
    cases x1
    exact ⟨i, rfl, h _ H1 F1 R1 s1 (.int _)⟩
  · cases e
theorem snd_not (ha : PE X a (tD X.K <| ev C <| sa)) : PE X (.UnaryOp .Not a pos) (tD X.K <| ev C <| .nt sa) := (pe_notT ha).imp fun σ H Q ⟨b, ρ, F, ad, r, ρ', B, R, e, h⟩ => by
  simp only [ev] at e
  split at e
  · rename_i r1 ρ1 e1
    split at e
    · rename_i x ex
      obtain ⟨z, ez, eq⟩ := Option.map_eq_some_iff.mp e
      cases eq
      refine .now B R e1 fun v H1 F1 R1 s1 x1 => ?_
      exact ⟨z, truth_ok R1 (R1.look' x1 ex) ez, h _ H1 F1 R1 s1 (.bl _)⟩
    · cases e
  · cases e
theorem snd_one {op : BoolOp} {t : TE} (h : PE X a t) : PE X (.BoolOp op [a] pos) t := pe_one h
theorem snd_and {rest : List Expr} (ha : PE X a (tD X.K <| ev C <| sa)) (hc : PE X (.BoolOp .And (c :: rest) pos) (tD X.K <| ev C <| sc)) : PE X (.BoolOp .And (a :: c :: rest) pos) (tD X.K <| ev C <| .andv sa sc) := (pe_and ha hc).imp fun σ H Q ⟨b, ρ, F, ad, r, ρ', B, R, e, h⟩ => by
  simp only [ev] at e
  split at e
  · rename_i ρ1 e1
    refine .now B R e1 fun v H1 F1 R1 s1 x1 => ?_
    cases x1
    refine ⟨true, rfl, ?_⟩
    refine iteT ?_
    exact .now B R1 e fun v H2 F2 R2 s2 x2 => h v H2 F2 R2 (s1.trans s2) x2
  · rename_i ρ1 e1
    cases e
    refine .now B R e1 fun v H1 F1 R1 s1 x1 => ?_
    cases x1
    refine ⟨false, rfl, ?_⟩
    refine iteF ?_
    exact h _ H1 F1 R1 s1 (.bl _)
  · cases e
theorem snd_or {rest : List Expr} (ha : PE X a (tD X.K <| ev C <| sa)) (hc : PE X (.BoolOp .Or (c :: rest) pos) (tD X.K <| ev C <| sc)) : PE X (.BoolOp .Or (a :: c :: rest) pos) (tD X.K <| ev C <| .orv sa sc) := (pe_or ha hc).imp fun σ H Q ⟨b, ρ, F, ad, r, ρ', B, R, e, h⟩ => by
  simp only [ev] at e
  split at e
  · rename_i ρ1 e1
    refine .now B R e1 fun v H1 F1 R1 s1 x1 => ?_
    cases x1
    refine ⟨false, rfl, ?_⟩
    refine iteF ?_
    exact .now B R1 e fun v H2 F2 R2 s2 x2 => h v H2 F2 R2 (s1.trans s2) x2
  · rename_i ρ1 e1
    cases e
    refine .now B R e1 fun v H1 F1 R1 s1 x1 => ?_
    cases x1
    refine ⟨true, rfl, ?_⟩
    refine iteT ?_
    exact h _ H1 F1 R1 s1 (.bl _)
  · cases e
theorem chain_rd {k : Nat} (hr : Room k X.A) {op op2 : CmpOp} (σ : St) (H : Hp) (Q : VK) : tD X.K (ev C (.cmp2 op op2 sa sc sd)) σ H Q → ∃ rr rr2, OpR X (compareOp op) rr ∧ OpR X (compareOp op2) rr2 ∧ tChain rr rr2 (tD X.K <| ev C <| sa) (tD X.K <| ev C <| sc) (tD X.K <| ev C <| sd) σ H Q := fun ⟨b, ρ, F, ad, r, ρ', B, R, e, h⟩ => by
  simp only [ev] at e
  split at e
  · rename_i r1 ρ1 e1
    split at e
    · rename_i q1 ρ2 e2
      split at e
      · rename_i x y ex ey
        split at e
        · rename_i ez
          split at e
          · rename_i u1 ρ3 e3
            split at e
            · rename_i y' w ey' ew
              obtain ⟨z2, ez2, eq⟩ := Option.map_eq_some_iff.mp e
              cases eq
              obtain ⟨rr, ok, does⟩ := cop_ok hr ez
              obtain ⟨rr2, ok2, does2⟩ := cop_ok hr ez2
              refine ⟨_, _, ok, ok2, tD.two B R e1 e2 fun v w H' F' R' s' d1 x2 => ?_⟩
              obtain ⟨F2, R2, s2, d2⟩ := R'.hold x2
              refine does b σ H' _ F2 ad v w _ R2 (R2.look (d1.mono s2) ex) (R2.look d2 ey) fun v' H3 F3 R3 s3 x3 => ?_
              cases x3
              refine ⟨true, rfl, ?_⟩
              refine iteT ?_
              refine .now B R3 e3 fun u H4 F4 R4 s4 x4 => ?_
              obtain ⟨F5, R5, s5, d5⟩ := R4.hold x4
              exact does2 b σ H4 _ F5 ad w u _ R5 (R5.look (d2.mono (s3.trans (s4.trans s5))) ey') (R5.look d5 ew) fun v H'' F'' R'' s'' x'' => h v H'' F'' R'' (s'.trans (s2.trans (s3.trans (s4.trans (s5.trans s''))))) x''
            · cases e
          · cases e
        · rename_i ez
          cases e
          obtain ⟨rr, ok, does⟩ := cop_ok hr ez
          have op2ok : OpR X (compareOp op2) fun _ _ _ _ => False := fun pins s σ H x y v u Q _ _ _ h => h.elim
          refine ⟨_, _, ok, op2ok, tD.two B R e1 e2 fun v w H' F' R' s' d1 x2 => ?_⟩
          obtain ⟨F2, R2, s2, d2⟩ := R'.hold x2
          refine does b σ H' _ F2 ad v w _ R2 (R2.look (d1.mono s2) ex) (R2.look d2 ey) fun v' H3 F3 R3 s3 x3 => ?_
          cases x3
          refine ⟨false, rfl, ?_⟩
          refine iteF ?_
          exact h _ H3 F3 R3 (s'.trans (s2.trans s3)) (.bl _)
        · cases e
      · cases e
    · cases e
  · cases e
theorem snd_chain {k : Nat} (hr : Room k X.A) {op op2 : CmpOp} (ha : PE X a (tD X.K <| ev C <| sa)) (hc : PE X c (tD X.K <| ev C <| sc)) (hd : PE X d (tD X.K <| ev C <| sd)) (hm : lastMarks [op, op2] [c, d] = false) : PE X (.Compare a [op, op2] [c, d] pos) (tD X.K <| ev C <| .cmp2 op op2 sa sc sd) := PE.case fun σ H Q q => by
  obtain ⟨rr, rr2, ok, ok2, q⟩ := chain_rd hr σ H Q q
  exact ⟨_, pe_chain ok ok2 ha hc hd hm, q⟩
theorem Lk.isNon {K : Frag} {F H : Hp} {v : V} {x : D} (h : Lk K F H v x) : decide (v = .non) = (match x with | .non => true | _ => false) := by
  cases x with
  | non => obtain rfl := h; rfl
  | bl => obtain rfl := h; rfl
  | int => obtain rfl := h; rfl
  | str => obtain rfl := h; rfl
  | lst => obtain ⟨_, _, rfl, _⟩ := h; rfl
  | tup => obtain ⟨_, _, rfl, _⟩ := h; rfl
  | dic =>
    rcases h with ⟨_, _, rfl, _⟩ | ⟨_, _, _, rfl, _⟩
    · rfl
    · rfl
  | scr => obtain ⟨_, rfl, _⟩ := h; rfl
theorem isN_rd (σ : St) (H : Hp) (Q : VK) : tD X.K (ev C (.isN sa)) σ H Q → tIsN (tD X.K <| ev C <| sa) σ H Q := fun ⟨b, ρ, F, ad, r, ρ', B, R, e, h⟩ => by
  simp only [ev] at e
  split at e
  · rename_i r1 ρ1 e1
    refine .now B R e1 fun v H1 F1 R1 s1 x1 => ?_
    split at e
    · rename_i ex
      cases e
      rw [(R1.look' x1 ex).isNon]
      exact h _ H1 F1 R1 s1 (.bl _)
    · rename_i x hn ex
      cases e
      rw [(R1.look' x1 ex).isNon]
      split
      · exact absurd rfl hn
      · exact h _ H1 F1 R1 s1 (.bl _)
    · cases e
  · cases e
theorem snd_isN {j : Nat} {p : Pos} (ha : PE X a (tD X.K <| ev C <| sa)) : PE X (.Compare a [.Is] [.Constant .none j p] pos) (tD X.K <| ev C <| .isN sa) := (pe_cmp (pc_isN ha)).imp isN_rd
theorem ntN_rd (σ : St) (H : Hp) (Q : VK) : tD X.K (ev C (.ntN sa)) σ H Q → tNotN (tD X.K <| ev C <| sa) σ H Q := fun ⟨b, ρ, F, ad, r, ρ', B, R, e, h⟩ => by
  simp only [ev] at e
  split at e
  · rename_i r1 ρ1 e1
    refine .now B R e1 fun v H1 F1 R1 s1 x1 => ?_
    split at e
    · rename_i ex
      cases e
      rw [(R1.look' x1 ex).isNon]
      exact h _ H1 F1 R1 s1 (.bl _)
    · rename_i x hn ex
      cases e
      rw [(R1.look' x1 ex).isNon]
      split
      · exact absurd rfl hn
      · exact h _ H1 F1 R1 s1 (.bl _)
    · cases e
  · cases e
theorem snd_ntN {j : Nat} {p : Pos} (ha : PE X a (tD X.K <| ev C <| sa)) : PE X (.Compare a [.IsNot] [.Constant .none j p] pos) (tD X.K <| ev C <| .ntN sa) := (pe_cmp (pc_notN ha)).imp ntN_rd
/-! ### tests -/
variable {ta tc : Tx}
theorem snd_tval (ha : PE X a (tD X.K <| ev C <| sa)) (he : ∀ whole, isTrue a X.env whole = (do let v ← whole; standAt a.pos; holding [v] (truthy v))) : PT X a (tDt X.K <| tv C <| .val sa) := (pt_truth ha he).imp fun σ H Q ⟨b, ρ, F, ad, r, ρ', B, R, e, h⟩ => by
  simp only [tv] at e
  split at e
  · rename_i r1 ρ1 e1
    split at e
    · rename_i x ex
      obtain ⟨z, ez, eq⟩ := Option.map_eq_some_iff.mp e
      cases eq
      refine .now B R e1 fun v H1 F1 R1 s1 x1 => ?_
      exact ⟨_, truth_ok R1 (R1.look' x1 ex) ez, h H1 F1 R1 s1⟩
    · cases e
  · cases e
/-- a test by a value that is a truth value -/
theorem tval_rd {se : Ex} (hb : ∀ ρ r ρ', ev C se ρ = some (r, ρ') → ∃ k, r = .val (.bl k)) (σ : St) (H : Hp) (Q : Bool → Hp → Prop) : tDt X.K (tv C (.val se)) σ H Q → tD X.K (ev C se) σ H fun x H1 => ∃ c, x = .bl c ∧ Q c H1 := fun ⟨b, ρ, F, ad, r, ρ', B, R, e, h⟩ => by
  simp only [tv] at e
  split at e
  · rename_i r1 ρ1 e1
    obtain ⟨k, rfl⟩ := hb _ _ _ e1
    cases e
    refine .now B R e1 fun v H1 F1 R1 s1 x1 => ?_
    cases x1
    exact ⟨_, rfl, h H1 F1 R1 s1⟩
  · cases e
theorem cmp_bl {op : CmpOp} (ρ : Env) (r : RV) (ρ' : Env) (e : ev C (.cmp op sa sc) ρ = some (r, ρ')) : ∃ k, r = .val (.bl k) := by
  simp only [ev] at e
  split at e
  · split at e
    · split at e
      · obtain ⟨z, ez, eq⟩ := Option.map_eq_some_iff.mp e
        cases eq
        exact ⟨_, rfl⟩
      · cases e
    · cases e
  · cases e
theorem chain_bl {op op2 : CmpOp} (ρ : Env) (r : RV) (ρ' : Env) (e : ev C (.cmp2 op op2 sa sc sd) ρ = some (r, ρ')) : ∃ k, r = .val (.bl k) := by
  simp only [ev] at e
  split at e
  · split at e
    · split at e
      · split at e
        · split at e
          · split at e
            · obtain ⟨z, ez, eq⟩ := Option.map_eq_some_iff.mp e
              cases eq
              exact ⟨_, rfl⟩
            · cases e
          · cases e
        · cases e; exact ⟨_, rfl⟩
        · cases e
      · cases e
    · cases e
  · cases e
theorem isN_bl (ρ : Env) (r : RV) (ρ' : Env) (e : ev C (.isN sa) ρ = some (r, ρ')) : ∃ k, r = .val (.bl k) := by
  simp only [ev] at e
  split at e
  · split at e
    · cases e; exact ⟨_, rfl⟩
    · cases e; exact ⟨_, rfl⟩
    · cases e
  · cases e
theorem ntN_bl (ρ : Env) (r : RV) (ρ' : Env) (e : ev C (.ntN sa) ρ = some (r, ρ')) : ∃ k, r = .val (.bl k) := by
  simp only [ev] at e
  split at e
  · split at e
    · cases e; exact ⟨_, rfl⟩
    · cases e; exact ⟨_, rfl⟩
    · cases e
  · cases e
theorem snd_tcmp {k : Nat} (hr : Room k X.A) {op : CmpOp} (ha : PE X a (tD X.K <| ev C <| sa)) (hc : PE X c (tD X.K <| ev C <| sc)) (hm : behindInMarks op c = false) : PT X (.Compare a [op] [c] pos) (tDt X.K (tv C (.val (.cmp op sa sc)))) := PT.case fun σ H Q q => by
  obtain ⟨rr, ok, q⟩ := cmp_rd hr σ H _ (tval_rd cmp_bl σ H Q q)
  exact ⟨_, pt_cmpR ok ha hc hm, q⟩
theorem snd_tchain {k : Nat} (hr : Room k X.A) {op op2 : CmpOp} (ha : PE X a (tD X.K <| ev C <| sa)) (hc : PE X c (tD X.K <| ev C <| sc)) (hd : PE X d (tD X.K <| ev C <| sd)) (hm : lastMarks [op, op2] [c, d] = false) : PT X (.Compare a [op, op2] [c, d] pos) (tDt X.K (tv C (.val (.cmp2 op op2 sa sc sd)))) := PT.case fun σ H Q q => by
  obtain ⟨rr, rr2, ok, ok2, q⟩ := chain_rd hr σ H _ (tval_rd chain_bl σ H Q q)
  exact ⟨_, pt_chain ok ok2 ha hc hd hm, q⟩
theorem snd_tisN {j : Nat} {p : Pos} (ha : PE X a (tD X.K <| ev C <| sa)) : PT X (.Compare a [.Is] [.Constant .none j p] pos) (tDt X.K (tv C (.val (.isN sa)))) := (pt_cmp (pc_isN ha)).imp fun σ H Q q => isN_rd σ H _ (tval_rd isN_bl σ H Q q)
theorem snd_tntN {j : Nat} {p : Pos} (ha : PE X a (tD X.K <| ev C <| sa)) : PT X (.Compare a [.IsNot] [.Constant .none j p] pos) (tDt X.K (tv C (.val (.ntN sa)))) := (pt_cmp (pc_notN ha)).imp fun σ H Q q => ntN_rd σ H _ (tval_rd ntN_bl σ H Q q)
theorem snd_tand1 (ha : PT X a (tDt X.K <| tv C <| ta)) : PW X (.BoolOp .And [a] pos) (tDt X.K <| tv C <| ta) := pw_and1 ha
theorem snd_tor1 (ha : PT X a (tDt X.K <| tv C <| ta)) : PW X (.BoolOp .Or [a] pos) (tDt X.K <| tv C <| ta) := pw_or1 ha
theorem _root_.L2.PW.imp {e : Expr} {t t' : TT} (h : PW X e t) (i : ∀ σ H Q, t' σ H Q → t σ H Q) : PW X e t' := ⟨fun wh pins s σ H Q I q => h.run wh pins s σ H Q I (i σ H Q q)⟩
theorem snd_tand {rest : List Expr} (ha : PT X a (tDt X.K <| tv C <| ta)) (hc : PW X (.BoolOp .And (c :: rest) pos) (tDt X.K <| tv C <| tc)) : PW X (.BoolOp .And (a :: c :: rest) pos) (tDt X.K <| tv C <| .and ta tc) := (pw_and ha hc).imp fun σ H Q ⟨b, ρ, F, ad, r, ρ', B, R, e, h⟩ => by
  simp only [tv] at e
  split at e
  · rename_i ρ1 e1
    refine ⟨b, ρ, F, ad, true, ρ1, B, R, e1, fun H1 F1 R1 s1 => ?_⟩
    refine iteT ?_
    exact ⟨b, ρ1, F1, ad, r, ρ', B, R1, e, fun H2 F2 R2 s2 => h H2 F2 R2 (s1.trans s2)⟩
  · rename_i ρ1 e1
    cases e
    refine ⟨b, ρ, F, ad, false, _, B, R, e1, fun H1 F1 R1 s1 => ?_⟩
    refine iteF ?_
    exact h H1 F1 R1 s1
  · cases e
theorem snd_tor {rest : List Expr} (ha : PT X a (tDt X.K <| tv C <| ta)) (hc : PW X (.BoolOp .Or (c :: rest) pos) (tDt X.K <| tv C <| tc)) : PW X (.BoolOp .Or (a :: c :: rest) pos) (tDt X.K <| tv C <| .or ta tc) := (pw_or ha hc).imp fun σ H Q ⟨b, ρ, F, ad, r, ρ', B, R, e, h⟩ => by
  simp only [tv] at e
  split at e
  · rename_i ρ1 e1
    cases e
    refine ⟨b, ρ, F, ad, true, _, B, R, e1, fun H1 F1 R1 s1 => ?_⟩
    refine iteT ?_
    exact h H1 F1 R1 s1
  · rename_i ρ1 e1
    refine ⟨b, ρ, F, ad, false, ρ1, B, R, e1, fun H1 F1 R1 s1 => ?_⟩
    refine iteF ?_
    exact ⟨b, ρ1, F1, ad, r, ρ', B, R1, e, fun H2 F2 R2 s2 => h H2 F2 R2 (s1.trans s2)⟩
  · cases e
theorem snd_tnot (ha : PT X a (tDt X.K <| tv C <| ta)) : PT X (.UnaryOp .Not a pos) (tDt X.K <| tv C <| .not ta) := (pt_not ha).imp fun σ H Q ⟨b, ρ, F, ad, r, ρ', B, R, e, h⟩ => by
  simp only [tv] at e
  split at e
  · rename_i k ρ1 e1
    cases e
    exact ⟨b, ρ, F, ad, k, _, B, R, e1, h⟩
  · cases e
theorem snd_ife {t : Expr} {st : Tx} (ht : PT X t (tDt X.K <| tv C <| st)) (ha : PE X a (tD X.K <| ev C <| sa)) (hc : PE X c (tD X.K <| ev C <| sc)) : PE X (.IfExp t a c pos) (tD X.K <| ev C <| .ife st sa sc) := (pe_ifExp ht ha hc).imp fun σ H Q ⟨b, ρ, F, ad, r, ρ', B, R, e, h⟩ => by
  simp only [ev] at e
  split at e
  · rename_i ρ1 e1
    refine ⟨b, ρ, F, ad, true, ρ1, B, R, e1, fun H1 F1 R1 s1 => ?_⟩
    refine iteT ?_
    exact .now B R1 e fun v H2 F2 R2 s2 x2 => h v H2 F2 R2 (s1.trans s2) x2
  · rename_i ρ1 e1
    refine ⟨b, ρ, F, ad, false, ρ1, B, R, e1, fun H1 F1 R1 s1 => ?_⟩
    refine iteF ?_
    exact .now B R1 e fun v H2 F2 R2 s2 x2 => h v H2 F2 R2 (s1.trans s2) x2
  · cases e
end
end Z

set_option linter.all false
set_option autoImplicit false
set_option Elab.async false
set_option maxRecDepth 100000
/-! Z, part 8: subscripts, slices, built-in calls, isinstance, displays of dicts, changing methods. -/
namespace Z
open PySem PySem.Spec PyProof.Rows L2
theorem kD_inj {k q : Key} : D.eqv (kD k) (kD q) = decide (k = q) := by
  cases k with
  | inl i => cases q with
    | inl j =>
      show (i == j) = _
      by_cases h : i = j
      · subst h; simp
      · have : ¬ (Sum.inl i : Key) = Sum.inl j := fun e => h (Sum.inl.inj e)
        rw [decide_eq_false this]; exact beq_eq_false_iff_ne.mpr h
    | inr j => rw [decide_eq_false fun e => nomatch e]; rfl
  | inr i => cases q with
    | inl j => rw [decide_eq_false fun e => nomatch e]; rfl
    | inr j =>
      show (i == j) = _
      by_cases h : i = j
      · subst h; simp
      · have : ¬ (Sum.inr i : Key) = Sum.inr j := fun e => h (Sum.inr.inj e)
        rw [decide_eq_false this]; exact beq_eq_false_iff_ne.mpr h
theorem dget_ok {K : Frag} {F : Hp} {k : Key} : ∀ {ds : List (D × D)} {kvs : List (Key × V)} {d : D}, KRps K F kvs ds → dget ds (kD k) = some d → ∃ v, valV kvs k = some v ∧ Rp K F v d
  | [], _, d, .nil, e => by cases e
  | _ :: ds, _, d, .cons (k := q) (v := v) h r, e => by
    unfold dget at e
    rw [kD_inj] at e
    by_cases z : q = k
    · rw [decide_eq_true z, if_pos rfl] at e
      cases e
      exact ⟨v, valV_pos z, h⟩
    · rw [decide_eq_false z, if_neg Bool.false_ne_true] at e
      obtain ⟨u, h1, h2⟩ := dget_ok r e
      refine ⟨u, ?_, h2⟩
      unfold valV at h1 ⊢
      rw [List.find?_cons]
      rw [show decide ((q, v).1 = k) = false from decide_eq_false z]
      exact h1
section
variable {X : Cx} {C : Cf} {pos : Pos} {a c d : Expr} {sa sc sd : Ex}
theorem snd_idx {k : Nat} (hr : Room k X.A) (ha : PE X a (tD X.K <| ev C <| sa)) (hc : PE X c (tD X.K <| ev C <| sc)) (hs : PlainIx c) (hn : NoSl c) : PE X (.Subscript a c pos) (tD X.K <| ev C <| .idx sa sc) := PE.case fun σ H Q ⟨b, ρ, F, ad, r, ρ', B, R, e, h⟩ => by
  simp only [ev] at e
  split at e
  · rename_i r1 ρ1 e1
    split at e
    · rename_i q1 ρ2 e2
      split at e
      · rename_i x y ex ey
        obtain ⟨z, ez, eq⟩ := Option.map_eq_some_iff.mp e
        cases eq
        by_cases nd : ∃ kvs, x = .dic kvs
        · obtain ⟨kvs, rfl⟩ := nd
          by_cases nt : ∃ ks, y = .tup ks
          · obtain ⟨ks, rfl⟩ := nt
            have ez2 : (if ((nkT (.tup ks)).isSome && keyed kvs) = true then dget kvs (.tup ks) else none) = some z := ez
            split at ez2
            · rename_i hz
              rw [Bool.and_eq_true] at hz
              obtain ⟨kk, hk⟩ := Option.isSome_iff_exists.mp hz.1
              refine ⟨_, pe_ix (ix_dN (by have := hr.un; omega)) ha hc hs, tD.two B R e1 e2 fun v w H' F' R' s' d1 x2 => ?_⟩
              obtain ⟨F2, R2, s2, d2⟩ := R'.hold x2
              obtain ⟨a', us, rfl, g⟩ := atN_of (R2.look (d1.mono s2) ex) hz.2
              obtain ⟨c', rfl, rc⟩ := lk_key hk (R2.look d2 ey)
              have hf := g.1.find hk
              rw [ez2] at hf
              obtain ⟨b', u, e3, ru⟩ := hf
              exact ⟨F2, a', c', us, kvs, _, kk, b', u, rfl, rfl, ⟨R2.sub, g, hk, rc⟩, e3, h u H' F2 R2 (s'.trans s2) ru⟩
            · cases ez2
          · refine ⟨_, pe_dget (hu_of hr) ha hc hn, tD.two B R e1 e2 fun v w H' F' R' s' d1 x2 => ?_⟩
            obtain ⟨F2, R2, s2, d2⟩ := R'.hold x2
            have hy := R2.look d2 ey
            rcases R2.look (d1.mono s2) ex with ⟨a', us, rfl, h1, r1⟩ | ⟨a', od, us, rfl, h1, r1⟩
            · cases y with
              | int i =>
                obtain rfl := hy
                obtain ⟨u, hu, ru⟩ := dget_ok (k := .inl i) r1 ez
                exact ⟨a', u, rfl, hu ▸ DGet.k (k := Sum.inl i) h1, h u H' F2 R2 (s'.trans s2) ru⟩
              | str i =>
                obtain rfl := hy
                obtain ⟨u, hu, ru⟩ := dget_ok (k := .inr i) r1 ez
                exact ⟨a', u, rfl, hu ▸ DGet.k (k := Sum.inr i) h1, h u H' F2 R2 (s'.trans s2) ru⟩
              | tup ks => exact absurd ⟨ks, rfl⟩ nt
              | non => cases ez
              | bl => cases ez
              | lst => cases ez
              | dic => cases ez
              | scr => cases ez
            · exfalso
              cases y with
              | int i =>
                have e3 : dget kvs (.int i) = some z := ez
                rw [dget_no (by rfl) (fun ds => by simp [D.eqv]) r1] at e3
                cases e3
              | str i =>
                have e3 : dget kvs (.str i) = some z := ez
                rw [dget_no (by rfl) (fun ds => by simp [D.eqv]) r1] at e3
                cases e3
              | tup ks => exact absurd ⟨ks, rfl⟩ nt
              | non => cases ez
              | bl => cases ez
              | lst => cases ez
              | dic => cases ez
              | scr => cases ez
        · obtain ⟨rr, ok, does⟩ := sub_ok (X := X) (fun kvs z => nd ⟨kvs, z⟩) ez
          refine ⟨_, pe_ix ok ha hc hs, tD.two B R e1 e2 fun v w H' F' R' s' d1 x2 => ?_⟩
          obtain ⟨F2, R2, s2, d2⟩ := R'.hold x2
          exact does b σ H' _ F2 ad v w Q R2 (R2.look (d1.mono s2) ex) (R2.look d2 ey) fun v H'' F'' R'' s'' x'' => h v H'' F'' R'' (s'.trans (s2.trans s'')) x''
      · cases e
    · cases e
  · cases e
/-! ### slices -/
def tDo (K : Frag) (f : Env → Option (Option Int × Env)) : TO := fun σ H Q => ∃ b ρ F ad r ρ', BoOk b ∧ Rl K b σ H ρ F ad ∧ f ρ = some (r, ρ') ∧
  ∀ H' F', Rl K b σ H' ρ' F' ad → Same F F' → Q r H'
theorem snd_ono : PO X none (tDo X.K (evo C .no)) := ⟨fun pins s σ H Q I ⟨b, ρ, F, ad, r, ρ', B, R, e, h⟩ => by
  cases e; exact po_none.run pins s σ H Q I (h H F R (Same.refl _))⟩
theorem snd_oone (ha : PE X a (tD X.K <| ev C <| sa)) : PO X (some a) (tDo X.K (evo C (.one sa))) := ⟨fun pins s σ H Q I ⟨b, ρ, F, ad, r, ρ', B, R, e, h⟩ => by
  simp only [evo] at e
  split at e
  · rename_i i ρ1 e1
    cases e
    refine (po_some ha).run pins s σ H Q I (tD.now B R e1 fun v H1 F1 R1 s1 x1 => ?_)
    cases x1
    exact ⟨i, rfl, h H1 F1 R1 s1⟩
  · cases e⟩
theorem snd_slc {lo hi : Option Expr} {sl sh : Ox} {p2 : Pos} (ha : PE X a (tD X.K <| ev C <| sa)) (hl : PO X lo (tDo X.K (evo C sl))) (hh : PO X hi (tDo X.K (evo C sh))) : PE X (.Subscript a (.Slice lo hi none p2) pos) (tD X.K <| ev C <| .slc sa sl sh) := PE.case fun σ H Q ⟨b, ρ, F, ad, r, ρ', B, R, e, h⟩ => by
  simp only [ev] at e
  split at e
  · rename_i r1 ρ1 e1
    split at e
    · rename_i l ρ2 e2
      split at e
      · rename_i u ρ3 e3
        have go : ∀ {P : V → Hp → Prop}, (∀ v H' F', Rl X.K b σ H' ρ3 F' ad → Same F F' → Hd X.K σ F' v r1 → P v H') → tD X.K (ev C sa) σ H fun x H1 => tDo X.K (evo C sl) σ H1 fun l' H2 => tDo X.K (evo C sh) σ H2 fun u' H3 => l' = l ∧ u' = u ∧ P x H3 := fun {P} hP =>
          .now B R e1 fun v H1 F1 R1 s1 x1 => by
            obtain ⟨F1', R1', s1', d1⟩ := R1.hold x1
            exact ⟨b, ρ1, F1', ad, l, ρ2, B, R1', e2, fun H2 F2 R2 s2 => ⟨b, ρ2, F2, ad, u, ρ3, B, R2, e3, fun H3 F3 R3 s3 => ⟨rfl, rfl, hP v H3 F3 R3 (s1.trans (s1'.trans (s2.trans s3))) (d1.mono (s2.trans s3))⟩⟩⟩
        have wk : ∀ {rr : V → Option Int → Option Int → Hp → VK → Prop} {P : V → Hp → Prop}, (∀ v H, P v H → rr v l u H Q) → (tD X.K (ev C sa) σ H fun x H1 => tDo X.K (evo C sl) σ H1 fun l' H2 => tDo X.K (evo C sh) σ H2 fun u' H3 => l' = l ∧ u' = u ∧ P x H3) →
            tSl rr (tD X.K (ev C sa)) (tDo X.K (evo C sl)) (tDo X.K (evo C sh)) σ H Q := fun {rr P} hP ⟨b1, ρa, F1, ad1, ra, ρb, B1, R1, e1, h1⟩ =>
          ⟨b1, ρa, F1, ad1, ra, ρb, B1, R1, e1, fun v H' F' R' s' x' => by
            obtain ⟨b2, ρc, F2, ad2, rc, ρd, B2, R2, e2, h2⟩ := h1 v H' F' R' s' x'
            refine ⟨b2, ρc, F2, ad2, rc, ρd, B2, R2, e2, fun H' F' R' s' => ?_⟩
            obtain ⟨b3, ρe, F3, ad3, re, ρf, B3, R3, e3, h3⟩ := h2 H' F' R' s'
            refine ⟨b3, ρe, F3, ad3, re, ρf, B3, R3, e3, fun H' F' R' s' => ?_⟩
            obtain ⟨z1, z2, z3⟩ := h3 H' F' R' s'
            subst z1 z2
            exact hP _ _ z3⟩
        split at e
        · rename_i xs ex
          cases e
          refine ⟨_, pe_slice sl_list ha hl hh, wk (P := fun v H => rSlL X.K v l u H Q) (fun v H p => p) (go fun v H' F' R' s' d => ?_)⟩
          obtain ⟨a', us, rfl, h1, r1⟩ := R'.look d ex
          exact ⟨a', us, rfl, .of h1, Post.newL R' (fun v H'' F'' R'' s'' x'' => h v H'' F'' R'' (s'.trans s'') x'') (cut_v r1 l u)⟩
        · rename_i xs ex
          cases e
          refine ⟨_, pe_slice sl_tupA ha hl hh, wk (P := fun v H => rSlA X.K v l u H Q) (fun v H p => p) (go fun v H' F' R' s' d => ?_)⟩
          obtain ⟨a', us, rfl, h1, r1⟩ := R'.look d ex
          refine ⟨a', us, rfl, Same.seqT R'.sub h1, fun hw => ?_, fun _ => Post.newT R' (fun v H'' F'' R'' s'' x'' => h v H'' F'' R'' (s'.trans s'') x'') (cut_v r1 l u)⟩
          refine h _ H' F' R' s' (.tup h1 ?_)
          have := cut_v r1 l u
          unfold cutV at this
          rw [hw.1, hw.2, List.drop_zero, Nat.sub_zero, List.take_length] at this
          exact this
        · cases e
      · cases e
    · cases e
  · cases e
/-! ### built-in calls -/
theorem snd_bf {k : Nat} (hgd : X.A.guards = some []) (hr : Room k X.A) {e : Expr} {es : List Expr} {f : Bf} {ses : Exs} {p : Pos} (hcalm : X.calm = true) (hg : Gl X f.str) (hm : X.mg f.str = none) (ha : PA X (e :: es) (tDs X.K (evs C ses)))
    (hn : (f.str : Str) ≠ "__name__") (hdb : ((f.str : Str) == ("__debug__" : Str)) = false) (he : starEach (e :: es) X.env = (false, eval e X.env) :: starEach es X.env) (hpl : (backTo pos (starEach es X.env)).any (·.1) = false) :
    PE X (.Call (.Name f.str p) (e :: es) [] pos) (tD X.K <| ev C <| .bf f ses) := PE.case fun σ H Q ⟨b, ρ, F, ad, r, ρ', B, R, e, h⟩ => by
  simp only [ev] at e
  split at e
  · rename_i rs ρ1 e1
    split at e
    · rename_i ds e2
      obtain ⟨z, ez, eq⟩ := Option.map_eq_some_iff.mp e
      cases eq
      obtain ⟨rr, ok, does⟩ := bfv_ok hgd hcalm hr.units ez
      have fin : tCB rr (tDs X.K (evs C ses)) σ H Q := ⟨b, ρ, F, ad, rs, _, B, R, e1, fun vs H1 F1 R1 s1 x1 =>
        does b σ H1 _ F1 ad vs Q R1 (R1.looks x1 e2) fun v H'' F'' R'' s'' x'' => h v H'' F'' R'' (s1.trans s'') x''⟩
      have hb := f.boot
      unfold Bf.fn at ok hb
      by_cases ht : f.isTy = true
      · rw [if_pos ht] at ok hb
        exact ⟨_, pe_callTy ok hg hm hb ha hn hdb he hpl, fin⟩
      · rw [if_neg ht] at ok hb
        exact ⟨_, pe_callB ok hg hm hb ha hn hdb he hpl, fin⟩
    · cases e
  · cases e
/-! ### isinstance -/
def Ty.nm : Ty → String
  | .int => "int" | .bool => "bool" | .str => "str" | .list => "list" | .tuple => "tuple" | .dict => "dict"
/-- the written classes -/
inductive TysOf (X : Cx) : List Ty → List Expr → Prop
  | nil : TysOf X [] []
  | cons {t : Ty} {ts : List Ty} {p : Pos} {es : List Expr} : Gl X t.nm → X.mg t.nm = none → (t.nm : Str) ≠ "__name__" → ((t.nm : Str) == ("__debug__" : Str)) = false → TysOf X ts es → TysOf X (t :: ts) (.Name t.nm p :: es)
theorem Ty.boot (t : Ty) : bootBuiltins t.nm = some (.type t.nm) := by cases t <;> decide +kernel
/-- the class of data -/
inductive Cn where
  | non | bl | int | str | tup | lst | dic
def Cn.nm : Cn → String
  | .non => "NoneType" | .bl => "bool" | .int => "int" | .str => "str" | .tup => "tuple" | .lst => "list" | .dic => "dict"
def Cn.isTy : Cn → Ty → Bool
  | .int, .int => true
  | .bl, .int => true
  | .bl, .bool => true
  | .str, .str => true
  | .lst, .list => true
  | .tup, .tuple => true
  | .dic, .dict => true
  | _, _ => false
def D.cn : D → Cn
  | .non => .non | .bl _ => .bl | .int _ => .int | .str _ => .str | .tup _ => .tup | .lst _ => .lst | .dic _ => .dic | .scr _ => .lst
def D.cls (d : D) : String := d.cn.nm
theorem Cn.kit (c : Cn) (t : Ty) : kitB c.nm t.nm = some (c.isTy t) := by cases c <;> cases t <;> decide +kernel
theorem isTy_kit {d : D} {t : Ty} (hs : ∀ ns, d ≠ .scr ns) : kitB d.cls t.nm = some (isTy d t) := by
  have : isTy d t = d.cn.isTy t := by
    cases d <;> first | exact absurd rfl (hs _) | (cases t <;> rfl)
  rw [this]
  exact Cn.kit _ _
theorem Lk.ty {K : Frag} {b : Bs} {σ : St} {ρ : Env} {ad : Nat → Addr} {F H : Hp} (R : Rl K b σ H ρ F ad) {v : V} {x : D} (hs : ∀ ns, x ≠ .scr ns) (hd : ∀ kvs, x ≠ .dic kvs) (h : Lk K F H v x) : TyX K H v (.type x.cls) := by
  cases x with
  | non => obtain rfl := h; exact .base .non
  | bl => obtain rfl := h; exact .base (.bl _)
  | int => obtain rfl := h; exact .base (.int _)
  | str => obtain rfl := h; exact .base (.str _)
  | lst => obtain ⟨_, _, rfl, q, _⟩ := h; exact .base (.lst q)
  | dic => exact absurd rfl (hd _)
  | scr => exact absurd rfl (hs _)
  | tup =>
    obtain ⟨a, _, rfl, q, _⟩ := h
    rcases q with (q | ⟨o, q⟩) | ⟨o, its, n, q, c, _⟩
    · exact .base (.tup (R.sub _ _ q))
    · exact .fTuple (R.sub _ _ q)
    · exact .kTuple q c
theorem kit_any {K : Frag} {d : D} (hs : ∀ ns, d ≠ .scr ns) : ∀ ts : List Ty, ts ≠ [] → PySem.W.kitAny K (.type d.cls) (ts.map fun t => Value.type t.nm) = some (ts.any (isTy d))
  | [], h => absurd rfl h
  | t :: r, _ => by
    have h1 : PySem.W.kitOne K (.type d.cls) (.type t.nm) = some (isTy d t) := kit_ty (isTy_kit hs)
    rw [List.map_cons, List.any_cons]
    refine kitAny_cons h1 (fun e => ?_) fun e => by rw [e]; rfl
    rw [e, Bool.false_or]
    cases r with
    | nil => rfl
    | cons u r => exact kit_any hs (u :: r) (List.cons_ne_nil _ _)
/-- names of built-in classes -/
theorem pa_tys : ∀ {ts : List Ty} {es : List Expr}, TysOf X ts es → PA X es fun _ H Q => Q (ts.map fun t => V.ty t.nm) H
  | [], _, .nil => pa_nil
  | t :: ts, _, .cons (es := es) hg hm hn hd r => (pa_cons (pe_bltn (v := .ty t.nm) hg hm t.boot rfl hn hd) (pa_tys r) (by rfl)).imp fun σ H Q q => q
theorem TysOf.paired {ts : List Ty} : Paired ClsV (ts.map fun t => V.ty t.nm) (ts.map fun t => Value.type t.nm) := by
  induction ts with
  | nil => exact .nil
  | cons t r ih => exact .cons (.ty _) ih
/-- isinstance(e, T) -/
theorem snd_isin1 {e : Expr} {se : Ex} {t : Ty} {p p2 : Pos} (hg : Gl X "isinstance") (hm : X.mg "isinstance" = none) (he : PE X e (tD X.K <| ev C <| se)) (ht : TysOf X [t] [.Name t.nm p2])
    (hs : starEach [e, .Name t.nm p2] X.env = (false, eval e X.env) :: starEach [.Name t.nm p2] X.env) :
    PE X (.Call (.Name "isinstance" p) [e, .Name t.nm p2] [] pos) (tD X.K <| ev C <| .isin se [t]) := PE.case fun σ H Q ⟨b, ρ, F, ad, r, ρ', B, R, e, h⟩ => by
  simp only [ev] at e
  split at e
  · rename_i r1 ρ1 e1
    split at e
    · cases e
    · cases e
    · rename_i x hx hdi ex
      cases e
      refine ⟨_, pe_callB call_isi hg hm boot_isinstance (pa_cons he (pa_tys ht) hs) (by decide) (by decide) hs (by rfl), .now B R e1 fun v H1 F1 R1 s1 x1 => ?_⟩
      refine ⟨v, .ty t.nm, _, _, isTy x t, rfl, .ty _, Lk.ty R1 hx hdi (R1.look' x1 ex), kit_ty (isTy_kit hx), ?_⟩
      have := h (.bl (isTy x t)) H1 F1 R1 s1
      rw [List.any_cons, List.any_nil, Bool.or_false] at this
      exact this (.bl _)
    · cases e
  · cases e
/-- isinstance(e, (T, U)) -/
theorem snd_isin {e : Expr} {es : List Expr} {se : Ex} {ts : List Ty} {p p2 : Pos} {k : Nat} (hne : ts ≠ []) (hl : ts.length ≤ 10) (hg : Gl X "isinstance") (hm : X.mg "isinstance" = none) (he : PE X e (tD X.K <| ev C <| se)) (ht : TysOf X ts es)
    (hs : starEach [e, .Tuple es k p2] X.env = (false, eval e X.env) :: starEach [.Tuple es k p2] X.env) :
    PE X (.Call (.Name "isinstance" p) [e, .Tuple es k p2] [] pos) (tD X.K <| ev C <| .isin se ts) := PE.case fun σ H Q ⟨b, ρ, F, ad, r, ρ', B, R, e, h⟩ => by
  simp only [ev] at e
  split at e
  · rename_i r1 ρ1 e1
    split at e
    · cases e
    · cases e
    · rename_i x hx hdi ex
      cases e
      refine ⟨_, pe_callB call_isiT hg hm boot_isinstance (pa_cons he (pa_cons (pe_tup (pa_tys ht)) pa_nil (by rfl)) hs) (by decide) (by decide) hs (by rfl), .now B R e1 fun v H1 F1 R1 s1 x1 => ?_⟩
      obtain ⟨F2, R2, s2, d2⟩ := R1.hold x1
      refine ⟨by rw [List.length_map]; exact Nat.le_trans hl (by decide), fun q hq => ?_⟩
      have R3 := R2.alloc (o := .tup (ts.map fun t => V.ty t.nm)) hq
      exact ⟨v, q, _, _, _, _, rfl, upd_same, TysOf.paired, Lk.ty R3 hx hdi (R3.look d2 ex), kit_any hx ts hne, h _ _ F2 R3 (s1.trans s2) (.bl _)⟩
    · cases e
  · cases e
end
end Z

set_option linter.all false
set_option autoImplicit false
set_option Elab.async false
set_option maxRecDepth 100000
/-! Z, part 9: changing methods, displays of dicts. -/
namespace Z
open PySem PySem.Spec PyProof.Rows L2
def Mm.str : Mm → String
  | .append => "append" | .extend => "extend" | .pop => "pop" | .update => "update" | .remove => "remove"
/-- a changing method of a list, by data -/
theorem mmv_ok {X : Cx} {m : Mm} {d d' r : D} {ds : List D} (e : mmv m d ds = some (d', r)) : ∃ rr, MtR X ("list." ++ m.str) rr ∧
    ∀ (b : Bs) (σ : St) (H : Hp) (ρ : Env) (F : Hp) (ad : Nat → Addr) (i : Nat) (s : Sl) (vs : List V) (Q : VK), Rl X.K b σ H ρ F ad → ρ[i]? = some s → s.cell = some d → Rps X.K F vs ds →
      (∀ v H', Rl X.K b σ H' (ρ.set i (s.to d')) F ad → Rp X.K F v r → Q v H') → rr (.ref (ad i)) vs H Q := by
  unfold mmv at e
  split at e
  · split at e
    · cases e
      rename_i xs x hz
      refine ⟨_, mt_append, fun b σ H ρ F ad i s vs Q R hi hc hv h => ?_⟩
      obtain ⟨_, _, us, hu, ru⟩ := R.cel i s _ hi hc
      cases hv with | cons q1 q2 => cases q2; exact ⟨_, us, _, rfl, rfl, hu, by rw [ru.length]; exact Nat.lt_trans hz LL_lt, h _ _ (R.put hi hc ⟨_, upd_same, ru.append (.one q1)⟩) .non⟩
    · cases e
  · split at e
    · cases e
      rename_i xs x hz
      refine ⟨_, mt_pop, fun b σ H ρ F ad i s vs Q R hi hc hv h => ?_⟩
      obtain ⟨_, _, us, hu, ru⟩ := R.cel i s _ hi hc
      cases hv
      rw [List.getLast?_eq_getElem?] at hz
      obtain ⟨u, h1, h2⟩ := ru.get hz
      have rd : Rps X.K F us.dropLast xs.dropLast := by
        rw [List.dropLast_eq_take, List.dropLast_eq_take, ru.length]
        exact ru.take _
      exact ⟨_, us, u, rfl, rfl, hu, by rw [ru.length]; exact h1, h _ _ (R.put hi hc ⟨_, upd_same, rd⟩) h2⟩
    · cases e
  · split at e
    · cases e
      rename_i xs ys hz
      refine ⟨_, mt_extend, fun b σ H ρ F ad i s vs Q R hi hc hv h => ?_⟩
      obtain ⟨_, _, us, hu, ru⟩ := R.cel i s _ hi hc
      cases hv with | cons q1 q2 => cases q2; cases q1 with | lst a1 a2 => exact ⟨_, _, us, _, rfl, rfl, hu, R.sub _ _ a1, LL_le (by rw [ru.length, a2.length]; exact hz.2.2), h _ _ (R.put hi hc ⟨_, upd_same, ru.append a2⟩) .non⟩
    · cases e
  · cases e
section
variable {X : Cx} {C : Cf} {pos : Pos}
theorem Mm.slot (m : Mm) : PySem.Slot "list" m.str ("list." ++ m.str) ∧ typeOf (.builtin ("list." ++ m.str)) = pure (.type "method_descriptor") ∨ m = .update ∨ m = .remove := by
  cases m
  · exact .inl ⟨F.slot_list_append, F.type_list_append⟩
  · exact .inl ⟨F.slot_list_extend, F.type_list_extend⟩
  · exact .inl ⟨F.slot_list_pop, F.type_list_pop⟩
  · exact .inr (.inl rfl)
  · exact .inr (.inr rfl)
theorem snd_mm {m : Mm} {i : Nat} {x : Str} {px ap cp : Pos} {e : Expr} {es : List Expr} {ses : Exs} (hN : X.N[i]? = some x) (hv : Vis X.env.scope x) (hd : (x == ("__debug__" : Str)) = false) (hcd : (x == ("__classdict__" : Str)) = false)
    (hm : m = .append ∨ m = .extend ∨ m = .pop) (ha : PA X (e :: es) (tDs X.K (evs C ses))) (hline : (ap.endLine == cp.line) = true) (hs : starEach (e :: es) X.env = (false, eval e X.env) :: starEach es X.env) (hplain : (backTo cp (starEach es X.env)).any (·.1) = false)
    (hfew : ((backTo cp (starEach (e :: es) X.env)).all (fun x => !x.1) && (backToKw cp (keywordEach [] X.env)).all (fun x => x.1.isSome)
      && decide ((e :: es).length + ([] : List Keyword).length + (if ([] : List Keyword).isEmpty then 0 else 1) < 30)) = true) :
    PE X (.Call (.Attribute (.Name x px) m.str ap) (e :: es) [] cp) (tD X.K <| ev C <| .mm m i ses) := PE.case fun σ H Q ⟨b, ρ, F, ad, r, ρ', B, R, e, h⟩ => by
  simp only [ev] at e
  split at e
  · rename_i s0 es0
    split at e
    · rename_i xs0 ec0
      split at e
      · rename_i rs ρ1 e1
        split at e
        · rename_i ds ρ2 e2 e3
          split at e
          · rename_i s es
            split at e
            · rename_i d ec
              split at e
              · rename_i d' rr em
                cases e
                obtain ⟨rw_, ok, does⟩ := mmv_ok (X := X) em
                obtain ⟨sl, ty⟩ : PySem.Slot "list" m.str ("list." ++ m.str) ∧ typeOf (.builtin ("list." ++ m.str)) = pure (.type "method_descriptor") := by
                  rcases m.slot with z | z | z
                  · exact z
                  · subst z; rcases hm with q | q | q <;> cases q
                  · subst z; rcases hm with q | q | q <;> cases q
                refine ⟨_, pe_bm PySem.F.plainAttrs_list sl ty ok (pe_var hN hv hd hcd) ha (by rfl) hfew hline hs hplain, ?_⟩
                obtain ⟨c1, c2, us0, hu0, _⟩ := R.cel i s0 _ es0 ec0
                refine ⟨_, c1, .inl ⟨rfl, _, .of hu0⟩, b, ρ, F, ad, rs, ρ1, B, R, e1, fun vs H1 F1 R1 s1 x1 => ?_⟩
                obtain ⟨F2, R2, s2, p2⟩ := R1.stls x1 e2 e3
                exact does b σ H1 ρ2 F2 ad i s vs Q R2 es ec p2 fun v H' R' rv => h v H' F2 R' (s1.trans s2) rv
              · cases e
            · cases e
          · cases e
        · cases e
      · cases e
    · cases e
  · cases e
theorem snd_mm0 {m : Mm} {i : Nat} {x : Str} {px ap cp : Pos} (hN : X.N[i]? = some x) (hv : Vis X.env.scope x) (hd : (x == ("__debug__" : Str)) = false) (hcd : (x == ("__classdict__" : Str)) = false)
    (hm : m = .pop) (hline : (ap.endLine == cp.line) = true) : PE X (.Call (.Attribute (.Name x px) m.str ap) [] [] cp) (tD X.K <| ev C <| .mm m i .nil) := PE.case fun σ H Q ⟨b, ρ, F, ad, r, ρ', B, R, e, h⟩ => by
  subst hm
  simp only [ev, evs, rds, stls] at e
  split at e
  · rename_i s0 es0
    split at e
    · rename_i xs0 ec0
      dsimp only at e
      rw [ec0] at e
      dsimp only at e
      split at e
      · rename_i d' rr em
        cases e
        obtain ⟨rw_, ok, does⟩ := mmv_ok (X := X) em
        refine ⟨_, pe_bm0 PySem.F.plainAttrs_list PySem.F.slot_list_pop PySem.F.type_list_pop ok (pe_var hN hv hd hcd) (by rfl) hline, ?_⟩
        obtain ⟨c1, c2, us0, hu0, _⟩ := R.cel i s0 _ es0 ec0
        refine ⟨_, c1, .inl ⟨rfl, _, .of hu0⟩, ?_⟩
        exact does b σ H ρ F ad i s0 [] Q R es0 ec0 .nil fun v H' R' rv => h v H' F R' (Same.refl _) rv
      · cases e
    · cases e
  · cases e
/-! ### displays of dicts -/
theorem KRps.put {K : Frag} {F : Hp} {k : Key} {v : V} {d : D} {kvs : List (Key × V)} {ds : List (D × D)} (h : KRps K F kvs ds) (g : Rp K F v d) : KRps K F (putK kvs k v) (dput ds (kD k) d) := by
  have any : (kvs.any fun kv => decide (kv.1 = k)) = ds.any fun p => D.eqv p.1 (kD k) := by
    induction ds generalizing kvs with
    | nil => cases h; rfl
    | cons p ds ih =>
      cases h with
      | cons a r =>
        rw [List.any_cons, List.any_cons, ih r]
        exact congrArg (· || _) kD_inj.symm
  unfold putK dput
  rw [any]
  split
  · rename_i hq
    clear any hq
    induction ds generalizing kvs with
    | nil => cases h; exact .nil
    | cons p ds ih =>
      cases h with
      | @cons q u _ e _ a r =>
        rw [List.map_cons, List.map_cons]
        dsimp only
        rw [kD_inj]
        by_cases z : q = k
        · rw [if_pos z, decide_eq_true z, if_pos rfl]
          exact .cons g (ih r)
        · rw [if_neg z, decide_eq_false z, if_neg Bool.false_ne_true]
          exact .cons a (ih r)
  · rename_i hq
    clear any hq
    induction ds generalizing kvs with
    | nil => cases h; exact .cons g .nil
    | cons p ds ih => cases h with | cons a r => exact .cons a (ih r)
theorem KRps.merge {K : Frag} {F : Hp} : ∀ {more : List (Key × V)} {ds : List (D × D)}, KRps K F more ds → ∀ {kvs : List (Key × V)} {es : List (D × D)}, KRps K F kvs es → KRps K F (mergeK kvs more) (ds.foldl (fun acc kv => dput acc kv.1 kv.2) es) := by
  intro more ds
  induction ds generalizing more with
  | nil => intro h kvs es g; cases h; exact g
  | cons p ds ih =>
    intro h kvs es g
    cases h with
    | cons a r => exact ih r (g.put a)
/-- the readings of keys and values -/
def trsOf (K : Frag) (C : Cf) : Exs → Exs → List (TE × TE)
  | .cons (.cst k) ks, .cons e es => (tD K (ev C (.cst k)), tD K (ev C e)) :: trsOf K C ks es
  | _, _ => []
theorem evp_ok {K : Frag} : ∀ {ks es : Exs} {b : Bs} {σ : St} {H : Hp} {ρ ρ' : Env} {F : Hp} {ad : Nat → Addr} {ds : List (D × D)} {P : List (V × V) → Hp → Prop}, BoOk b → Rl K b σ H ρ F ad → evp C ks es ρ = some (ds, ρ') →
    (∀ (kvs : List (Key × V)) H' F', Rl K b σ H' ρ' F' ad → Same F F' → KRps K F' kvs ds → P (kvs.map fun kv => (kV kv.1, kv.2)) H') → tPairs (trsOf K C ks es) σ H P
  | .nil, .nil, b, σ, H, ρ, ρ', F, ad, ds, P, B, R, e, h => by
    cases e
    exact h [] H F R (Same.refl _) .nil
  | .cons (.cst k) ks, .cons e' es, b, σ, H, ρ, ρ', F, ad, ds, P, B, R, e, h => by
    simp only [evp] at e
    split at e
    · rename_i r ρ1 e1
      split at e
      · rename_i d ρ2 e2
        split at e
        · rename_i l ρ3 e3
          have go : ∀ (q : Key), k = kD q → (∀ (kvs : List (Key × V)) H' F', Rl K b σ H' ρ3 F' ad → Same F F' → KRps K F' kvs ((kD q, d) :: l) → P (kvs.map fun kv => (kV kv.1, kv.2)) H') → tPairs (trsOf K C (.cons (.cst k) ks) (.cons e' es)) σ H P := fun q hq h => by
            subst hq
            refine .now (ρ' := ρ) (r := .val (kD q)) B R (by simp [ev]) fun v H0 F0 R0 s0 x0 => ?_
            refine .now B R0 e1 fun w H1 F1 R1 s1 x1 => ?_
            obtain ⟨F1', R1', s1', d1⟩ := R1.hold x1
            obtain ⟨F2, R2, s2, p2⟩ := R1'.stl d1 e2
            refine evp_ok (ds := l) B R2 e3 fun kvs H3 F3 R3 s3 x3 => ?_
            have ev : v = kV q := by
              cases q with
              | inl i => cases x0; rfl
              | inr i => cases x0; rfl
            subst ev
            exact h ((q, w) :: kvs) H3 F3 R3 (s0.trans (s1.trans (s1'.trans (s2.trans s3)))) (.cons (p2.mono s3) x3)
          split at e
          · cases e
            exact go (.inl _) rfl h
          · cases e
            exact go (.inr _) rfl h
          · cases e
        · cases e
      · cases e
    · cases e
  | .nil, .cons _ _, _, _, _, _, _, _, _, _, _, _, _, e, _ => by simp [evp] at e
  | .cons k ks, .nil, _, _, _, _, _, _, _, _, _, _, _, e, _ => by cases k <;> simp [evp] at e
  | .cons (.gl _ _) ks, .cons _ _, _, _, _, _, _, _, _, _, _, _, _, e, _ => by simp [evp] at e
  | .cons (.var _) ks, .cons _ _, _, _, _, _, _, _, _, _, _, _, _, e, _ => by simp [evp] at e
  | .cons (.lst _) ks, .cons _ _, _, _, _, _, _, _, _, _, _, _, _, e, _ => by simp [evp] at e
  | .cons (.tup _) ks, .cons _ _, _, _, _, _, _, _, _, _, _, _, _, e, _ => by simp [evp] at e
  | .cons (.dct _ _) ks, .cons _ _, _, _, _, _, _, _, _, _, _, _, _, e, _ => by simp [evp] at e
  | .cons (.bin _ _ _) ks, .cons _ _, _, _, _, _, _, _, _, _, _, _, _, e, _ => by simp [evp] at e
  | .cons (.neg _) ks, .cons _ _, _, _, _, _, _, _, _, _, _, _, _, e, _ => by simp [evp] at e
  | .cons (.nt _) ks, .cons _ _, _, _, _, _, _, _, _, _, _, _, _, e, _ => by simp [evp] at e
  | .cons (.andv _ _) ks, .cons _ _, _, _, _, _, _, _, _, _, _, _, _, e, _ => by simp [evp] at e
  | .cons (.orv _ _) ks, .cons _ _, _, _, _, _, _, _, _, _, _, _, _, e, _ => by simp [evp] at e
  | .cons (.cmp _ _ _) ks, .cons _ _, _, _, _, _, _, _, _, _, _, _, _, e, _ => by simp [evp] at e
  | .cons (.cmp2 _ _ _ _ _) ks, .cons _ _, _, _, _, _, _, _, _, _, _, _, _, e, _ => by simp [evp] at e
  | .cons (.isN _) ks, .cons _ _, _, _, _, _, _, _, _, _, _, _, _, e, _ => by simp [evp] at e
  | .cons (.ntN _) ks, .cons _ _, _, _, _, _, _, _, _, _, _, _, _, e, _ => by simp [evp] at e
  | .cons (.ife _ _ _) ks, .cons _ _, _, _, _, _, _, _, _, _, _, _, _, e, _ => by simp [evp] at e
  | .cons (.idx _ _) ks, .cons _ _, _, _, _, _, _, _, _, _, _, _, _, e, _ => by simp [evp] at e
  | .cons (.slc _ _ _) ks, .cons _ _, _, _, _, _, _, _, _, _, _, _, _, e, _ => by simp [evp] at e
  | .cons (.rev _) ks, .cons _ _, _, _, _, _, _, _, _, _, _, _, _, e, _ => by simp [evp] at e
  | .cons (.call _ _ _) ks, .cons _ _, _, _, _, _, _, _, _, _, _, _, _, e, _ => by simp [evp] at e
  | .cons (.call1 _ _) ks, .cons _ _, _, _, _, _, _, _, _, _, _, _, _, e, _ => by simp [evp] at e
  | .cons (.bf _ _) ks, .cons _ _, _, _, _, _, _, _, _, _, _, _, _, e, _ => by simp [evp] at e
  | .cons (.isin _ _) ks, .cons _ _, _, _, _, _, _, _, _, _, _, _, _, e, _ => by simp [evp] at e
  | .cons (.mt _ _ _) ks, .cons _ _, _, _, _, _, _, _, _, _, _, _, _, e, _ => by simp [evp] at e
  | .cons (.mm _ _ _) ks, .cons _ _, _, _, _, _, _, _, _, _, _, _, _, e, _ => by simp [evp] at e
  | .cons (.comp _ _ _ _ _) ks, .cons _ _, _, _, _, _, _, _, _, _, _, _, _, e, _ => by simp [evp] at e
theorem KRps.length {K : Frag} {F : Hp} {vs : List (Key × V)} {ds : List (D × D)} (r : KRps K F vs ds) : vs.length = ds.length := by
  induction ds generalizing vs with
  | nil => cases r; rfl
  | cons d ds ih => cases r with | cons _ r => exact congrArg Nat.succ (ih r)
theorem BoOk.at {K : Frag} {b : Bs} {σ : St} {H : Hp} {ρ : Env} {F : Hp} {ad : Nat → Addr} (B : BoOk b) (R : Rl K b σ H ρ F ad) : BoOk (b.at H ρ F ad) := fun a e => by
  obtain ⟨o, ho⟩ := B a e
  unfold Bs.at
  dsimp only
  split
  · exact ⟨o, ho⟩
  · cases q : H a with
    | none => rw [R.dom a q] at ho; cases ho
    | some u => exact ⟨u, rfl⟩
theorem snd_dct {keys : List (Option Expr)} {values : List Expr} {ks vs : Exs} (h : PPs X pos keys values (trsOf X.K C ks vs)) (hall : keys.all (·.isSome) = true) (hl : keys.length = values.length) (h0 : keys ≠ []) (h15 : keys.length ≤ 15) :
    PE X (.Dict keys values pos) (tD X.K <| ev C <| .dct ks vs) := (pe_disp h hall hl h0 h15).imp fun σ H Q ⟨b, ρ, F, ad, r, ρ', B, R, e, h⟩ p hp => by
  simp only [ev] at e
  split at e
  · rename_i ds ρ1 e1
    split at e
    · rename_i hz
      cases e
      have Ra := R.alloc (o := .dK []) hp
      have hF := R.free hp
      have h0 := R.dom p hp
      have hc := R.celN hp
      refine evp_ok (B.at Ra) Ra.rebase e1 fun kvs H' F' R' s' k => ?_
      have R2 := Ra.unbase R'
      have e2 : H' p = some (.dK []) := Ra.temp R' upd_same h0 hc B
      have hF' : F' p = none := by
        cases q : F' p with
        | none => rfl
        | some u =>
          rcases R'.fd p u q with z | z
          · rw [show (b.at (upd H p (.dK [])) ρ F ad).F0 = F from rfl, hF] at z; cases z
          · unfold Bs.at at z
            dsimp only at z
            rw [if_neg fun ⟨i, s, d, q, c, z⟩ => hc i s d q c z, upd_same] at z
            cases z
      have hc' : ∀ (i : Nat) s d, ρ'[i]? = some s → s.cell = some d → ad i ≠ p := fun i s d q c z => by
        obtain ⟨_, _, ob⟩ := R'.cel i s d q c
        cases s with
        | no => cases c
        | val => cases c
        | own =>
          have := R'.own i _ q
          rw [z] at this
          unfold Bs.at at this
          dsimp only at this
          rw [if_neg fun ⟨i, s, d, q, c, z⟩ => hc i s d q c z, upd_same] at this
          cases this
        | bor =>
          have := R'.bor i _ q
          rw [z] at this
          obtain ⟨o, ho⟩ := B p this
          rw [h0] at ho; cases ho
      refine ⟨e2, kvs, rfl, by rw [k.length]; exact hz, ?_⟩
      refine h _ _ F' (R2.over hF' h0 hc') s' ⟨p, rfl, hF', .inl ⟨_, upd_same, KRps.merge k .nil⟩, hc', h0⟩
    · cases e
  · cases e
end
end Z

set_option linter.all false
set_option autoImplicit false
set_option Elab.async false
set_option maxRecDepth 100000
/-! Z, part 9b: methods that tell: index, get. -/
namespace Z
open PySem PySem.Spec PyProof.Rows L2
def Mt.str : Mt → String
  | .get => "get" | .index => "index" | .count => "count"
theorem idx_py {x : D} (hx : x.fl = true) : ∀ {ys : List D}, D.flats 20 ys = true → mem x ys = true → ∃ z, (D.pys ys)[idxD x ys]? = some z ∧ PyData.eqv z x.py = true ∧ ∀ (m : Nat) (z' : PyData), m < idxD x ys → (D.pys ys)[m]? = some z' → PyData.eqv z' x.py = false
  | [], _, h => by simp [mem] at h
  | y :: ys, hf, h => by
    rw [D.flats, Bool.and_eq_true] at hf
    rw [D.pys, idxD]
    have e := eqv_py hf.1 hx
    by_cases c : D.eqv y x = true
    · rw [if_pos c]
      exact ⟨_, rfl, by rw [← e]; exact c, fun m z' hm => absurd hm (Nat.not_lt_zero _)⟩
    · rw [if_neg c]
      have h' : mem x ys = true := by
        unfold mem at h ⊢
        rw [List.any_cons, Bool.or_eq_true] at h
        exact h.resolve_left c
      obtain ⟨z, h1, h2, h3⟩ := idx_py hx hf.2 h'
      refine ⟨z, h1, h2, fun m z' hm hz => ?_⟩
      cases m with
      | zero =>
        cases hz
        rw [← e]
        exact Bool.eq_false_iff.mpr c
      | succ m => exact h3 m z' (by omega) hz
section
variable {X : Cx}
/-- a dict with such keys -/
def tyN (K : Frag) (x : V) (H : Hp) : Prop := ∃ F a kvs ds, x = .ref a ∧ Same F H ∧ AtN K F H a kvs ds
theorem tyN_ok : TyOk X "dict" (tyN X.K) := by
  intro pins σ H s x v I r ty
  obtain ⟨F, a, kvs, ds, rfl, sub, g⟩ := ty
  cases r
  obtain ⟨us, _, ⟨o, es, ep, ho, hc, _⟩, _⟩ := atN_dict I sub g
  refine ⟨⟨o, ho, hc.1⟩, fun b e => ?_⟩
  cases e
  exact ⟨o, ho, hc.2.1⟩
/-- d.get(k) -/
def rGetN (K : Frag) : V → List V → Hp → VK → Prop := fun x xs H Q => ∃ F a b kvs ds q k, x = .ref a ∧ xs = [.ref b] ∧ DNg K F H a b kvs ds q k ∧ (∀ b' v, kvs.find? (fun p => decide (p.1 = k)) = some (k, b', v) → Q v H) ∧ (dget ds q = none → Q .non H)
theorem mt_getN (hu : X.A.units + 9 < cLine) : MtR X "dict.get" (rGetN X.K) := by
  intro pins s σ H x xs v us Q I rx rxs h
  obtain ⟨F, a, b, kvs, ds, q, k, rfl, rfl, g, h1, h2⟩ := h
  obtain ⟨us', hn, hd, hk, _, hs, hl, hf⟩ := dn_look I g
  cases rx
  cases rxs with | cons r t => cases t; cases r; exact (
    call_meetsIn PySem.F.slot_dict_get hd.typeIs PySem.F.entry_dict_get (PySem.F.args_dict_get_2 _ _) (meetsH_dict_get (nestedKind X.prog X.w) a b hs) ⟨(show X.A.units + 1 + 8 < cLine by omega), k, us', hk, hd, by
      have fd := g.at'.1.find g.key
      cases e : dget ds q with
      | none =>
        rw [e] at hl
        have z : atKey us' k = none := by cases c : atKey us' k with
          | none => rfl
          | some p => rw [c] at hl; cases hl
        rw [z]
        exact ⟨.non, H, I.tok _, rfl, h2 e⟩
      | some d =>
        rw [e] at fd
        obtain ⟨b', w, e1, _⟩ := fd
        obtain ⟨p, e2, e3⟩ := hf _ _ e1
        rw [e2]
        exact ⟨w, H, I.tok _, e3, h1 _ _ e1⟩⟩)
end
theorem mtOk_index {d : D} (h : mtOk .index d = true) : ∃ xs, d = .lst xs := by cases d <;> first | exact ⟨_, rfl⟩ | cases h
theorem mtOk_get {d : D} (h : mtOk .get d = true) : ∃ kvs, d = .dic kvs ∧ keyed kvs = true := by cases d <;> first | exact ⟨_, rfl, h⟩ | cases h
theorem mtv_index {d z : D} {ds : List D} (e : mtv .index d ds = some z) : ∃ ys x, d = .lst ys ∧ ds = [x] ∧ x.fl = true ∧ D.flats 20 ys = true ∧ mem x ys = true ∧ z = .int (idxD x ys) := by
  cases d with
  | lst ys =>
    match ds, e with
    | [x], e =>
      have e : (if (x.fl && D.flats 20 ys && mem x ys) = true then some (D.int (idxD x ys)) else none) = some z := e
      split at e
      · rename_i hc
        simp only [Bool.and_eq_true] at hc
        cases e
        exact ⟨ys, x, rfl, rfl, hc.1.1, hc.1.2, hc.2, rfl⟩
      · cases e
    | [], e => cases e
    | _ :: _ :: _, e => cases e
  | _ => cases e
theorem mtv_get {d z : D} {ds : List D} (e : mtv .get d ds = some z) : ∃ kvs x, d = .dic kvs ∧ ds = [x] ∧ (nkT x).isSome = true ∧ keyed kvs = true ∧ z = (dget kvs x).getD .non := by
  cases d with
  | dic kvs =>
    match ds, e with
    | [x], e =>
      have e : (if ((nkT x).isSome && keyed kvs) = true then some ((dget kvs x).getD .non) else none) = some z := e
      split at e
      · rename_i hc
        rw [Bool.and_eq_true] at hc
        cases e
        exact ⟨kvs, x, rfl, rfl, hc.1, hc.2, rfl⟩
      · cases e
    | [], e => cases e
    | _ :: _ :: _, e => cases e
  | _ => cases e
section
variable {X : Cx} {C : Cf} {pos : Pos}
theorem snd_mt {k : Nat} (hr : Room k X.A) {m : Mt} {se : Ex} {ses : Exs} {o e : Expr} {es : List Expr} {ap cp : Pos} (hm : m = .index ∨ m = .get) (ho : PE X o (tD X.K (ev C se))) (ha : PA X (e :: es) (tDs X.K (evs C ses)))
    (hbase : attributeBase o m.str X.env (eval o X.env) = eval o X.env) (hline : (ap.endLine == cp.line) = true) (hs : starEach (e :: es) X.env = (false, eval e X.env) :: starEach es X.env) (hplain : (backTo cp (starEach es X.env)).any (·.1) = false)
    (hfew : ((backTo cp (starEach (e :: es) X.env)).all (fun x => !x.1) && (backToKw cp (keywordEach [] X.env)).all (fun x => x.1.isSome)
      && decide ((e :: es).length + ([] : List Keyword).length + (if ([] : List Keyword).isEmpty then 0 else 1) < 30)) = true) :
    PE X (.Call (.Attribute o m.str ap) (e :: es) [] cp) (tD X.K <| ev C <| .mt m se ses) := PE.case fun σ H Q ⟨b, ρ, F, ad, r, ρ', B, R, ee, h⟩ => by
  have hu := hr.units
  simp only [ev] at ee
  split at ee
  · rename_i r0 ρ1 e1
    split at ee
    · rename_i d0 e2
      split at ee
      · rename_i hok
        split at ee
        · rename_i rs ρ2 e3
          split at ee
          · rename_i d ds e4 e5
            obtain ⟨z, ez, eq⟩ := Option.map_eq_some_iff.mp ee
            cases eq
            rcases hm with rfl | rfl
            · -- index
              refine ⟨_, pe_bm PySem.F.plainAttrs_list PySem.F.slot_list_index PySem.F.type_list_index (mt_indexD (by have := hr.un; omega)) ho ha hbase hfew hline hs hplain, ?_⟩
              refine ⟨b, ρ, F, ad, r0, ρ1, B, R, e1, fun v H1 F1 R1 s1 x1 => ?_⟩
              obtain ⟨F1', R1', s1', hd1⟩ := R1.hold x1
              have lk := R1'.look hd1 e2
              refine ⟨?_, b, ρ1, F1', ad, rs, _, B, R1', e3, fun vs H2 F2 R2 s2 x2 => ?_⟩
              · obtain ⟨ds0, rfl⟩ := mtOk_index hok
                obtain ⟨a, us, rfl, q, _⟩ := lk
                exact .inl ⟨rfl, _, .of q⟩
              · have lk2 := R2.look (hd1.mono s2) e4
                have lks := R2.looks x2 e5
                obtain ⟨ys, x, rfl, rfl, c1, c2, c3, rfl⟩ := mtv_index ez
                obtain ⟨a, us, rfl, q, r⟩ := lk2
                obtain ⟨v, rfl, hv⟩ := lks.one
                obtain ⟨z, z1, z2, z3⟩ := idx_py c1 c2 c3
                exact ⟨a, v, _, _, _, z, rfl, rfl, .lst (.of q) (flats_dp c2 (r.mono R2.sub)), flat_dp c1 (hv.rp R2.sub), fls_shaped c2, fl_shaped c1, z1, z2, z3, h _ H2 F2 R2 ((s1.trans s1').trans s2) (.int _)⟩
            · -- get
              refine ⟨_, pe_mG tyN_ok PySem.F.plainAttrs_dict PySem.F.slot_dict_get PySem.F.type_dict_get (mt_getN (by omega)) ho ha hbase hfew hline hs hplain, ?_⟩
              refine ⟨b, ρ, F, ad, r0, ρ1, B, R, e1, fun v H1 F1 R1 s1 x1 => ?_⟩
              obtain ⟨F1', R1', s1', hd1⟩ := R1.hold x1
              have lk := R1'.look hd1 e2
              refine ⟨?_, b, ρ1, F1', ad, rs, _, B, R1', e3, fun vs H2 F2 R2 s2 x2 => ?_⟩
              · obtain ⟨kvs, rfl, hk⟩ := mtOk_get hok
                obtain ⟨a, ns, rfl, g⟩ := atN_of lk hk
                exact ⟨F1', a, ns, _, rfl, R1'.sub, g⟩
              · have lk2 := R2.look (hd1.mono s2) e4
                have lks := R2.looks x2 e5
                obtain ⟨kvs, x, rfl, rfl, c1, c2, rfl⟩ := mtv_get ez
                obtain ⟨k, hk⟩ := Option.isSome_iff_exists.mp c1
                obtain ⟨a, ns, rfl, g⟩ := atN_of lk2 c2
                obtain ⟨v, rfl, hv⟩ := lks.one
                obtain ⟨c, rfl, rc⟩ := lk_key hk hv
                have fd := g.1.find hk
                refine ⟨F2, a, c, ns, kvs, _, k, rfl, rfl, ⟨R2.sub, g, hk, rc⟩, fun b' w e => ?_, fun e => ?_⟩
                · cases e6 : dget kvs x with
                  | none => rw [e6] at fd; rw [fd] at e; cases e
                  | some d =>
                    rw [e6] at fd h
                    obtain ⟨b2, w2, f1, f2⟩ := fd
                    rw [f1] at e
                    cases e
                    exact h _ H2 F2 R2 ((s1.trans s1').trans s2) f2
                · rw [e] at h
                  exact h _ H2 F2 R2 ((s1.trans s1').trans s2) .non
          · cases ee
        · cases ee
      · cases ee
    · cases ee
  · cases ee
end
end Z

set_option linter.all false
set_option autoImplicit false
set_option Elab.async false
set_option maxRecDepth 100000
/-! Z, part 9b: displays of dicts: the empty one; one pair whose key is a tuple. -/
namespace Z
open PySem PySem.Spec PyProof.Rows L2
section
variable {X : Cx} {C : Cf} {pos : Pos}
theorem snd_dct0 : PE X (.Dict [] [] pos) (tD X.K <| ev C <| .dct .nil .nil) := pe_dnewK.imp fun σ H Q ⟨b, ρ, F, ad, r, ρ', B, R, e, h⟩ p hp => by
  simp only [ev, evp] at e
  cases e
  exact h (.ref p) _ F (R.alloc hp) (Same.refl _) ⟨p, rfl, R.free hp, .inl ⟨[], upd_same, .nil⟩, R.celN hp, R.dom p hp⟩
theorem snd_rev {a : Expr} {sa : Ex} {k : Nat} {p1 p2 p3 : Pos} (ha : PE X a (tD X.K <| ev C <| sa)) : PE X (.Subscript a (.Slice none none (some (.UnaryOp .USub (.Constant (.int 1) k p1) p2)) p3) pos) (tD X.K <| ev C <| .rev sa) := (pe_revL ha).imp fun σ H Q ⟨b, ρ, F, ad, r, ρ', B, R, e, h⟩ => by
  simp only [ev] at e
  split at e
  · rename_i r1 ρ1 e1
    split at e
    · rename_i xs ex
      cases e
      refine tD.now B R e1 fun v H1 F1 R1 s1 x1 => ?_
      obtain ⟨a', us, rfl, q, rr⟩ := R1.look' x1 ex
      exact ⟨a', us, rfl, .of q, fun p hp => Post.newL (ds := xs.reverse) (Q := Q) R1 (fun v H' F' R' s' x' => h v H' F' R' (s1.trans s') x') rr.reverse p hp⟩
    · cases e
  · cases e
/-- a new object that is no slot's, kept through a reading -/
theorem Rl.through {K : Frag} {b : Bs} {σ : St} {H H' : Hp} {ρ ρ' : Env} {F F' : Hp} {ad : Nat → Addr} {p : Addr} {o : HO} (R : Rl K b σ H ρ F ad) (B : BoOk b) (hp : H p = none) (R' : Rl K (b.at (upd H p o) ρ F ad) σ H' ρ' F' ad) :
    H' p = some o ∧ F' p = none ∧ b.H0 p = none ∧ (∀ (i : Nat) s d, ρ'[i]? = some s → s.cell = some d → ad i ≠ p) ∧ Rl K b σ H' ρ' F' ad := by
  have Ra := R.alloc (o := o) hp
  have hF := R.free hp
  have h0 := R.dom p hp
  have hc := R.celN hp
  refine ⟨Ra.temp R' upd_same h0 hc B, ?_, h0, fun i s d q c z => ?_, Ra.unbase R'⟩
  · cases q : F' p with
    | none => rfl
    | some u =>
      rcases R'.fd p u q with z | z
      · rw [show (b.at (upd H p o) ρ F ad).F0 = F from rfl, hF] at z; cases z
      · unfold Bs.at at z
        dsimp only at z
        rw [if_neg fun ⟨i, s, d, q, c, z⟩ => hc i s d q c z, upd_same] at z
        cases z
  · obtain ⟨_, _, ob⟩ := R'.cel i s d q c
    cases s with
    | no => cases c
    | val => cases c
    | own =>
      have := R'.own i _ q
      rw [z] at this
      unfold Bs.at at this
      dsimp only at this
      rw [if_neg fun ⟨i, s, d, q, c, z⟩ => hc i s d q c z, upd_same] at this
      cases this
    | bor =>
      have := R'.bor i _ q
      rw [z] at this
      obtain ⟨o, ho⟩ := B p this
      rw [h0] at ho; cases ho
def DspN (K : Frag) (Q : VK) (p : Addr) (ps : List (V × V)) (H2 : Hp) : Prop := ∃ (F : Hp) (c : Addr) (y : V) (q : D) (k : NestedKey), ps = [(.ref c, y)] ∧ H2 p = some (.dK []) ∧ Same F H2 ∧ nkT q = some k ∧ Rp K F (.ref c) q ∧ ∀ od, Q (.ref p) (upd H2 p (dN p od [(k, c, y)]))
def tDispN (K : Frag) (tk tv : TE) : TE := fun σ H Q => ∀ p, H p = none → tPairs [(tk, tv)] σ (upd H p (.dK [])) (DspN K Q p)
theorem pe_dispN (hu : X.A.units + 8 < cLine) {ke ve : Expr} {tk tv : TE} (hk : PE X ke tk) (hv : PE X ve tv) : PE X (.Dict [some ke] [ve] pos) (tDispN X.K tk tv) := by
  refine ⟨fun pins s σ H Q I q => ?_⟩
  have hn := I.hok.fresh (Nat.le_refl s.heap.objs.size)
  have I1 := I.laid (a := s.heap.objs.size) (o := .dK []) (h' := s.heap.push { cls := .type "dict", data := .dict #[] }) (t' := s.toks) (fun _ _ q => Heap.get?_push_of_some _ q) (Nat.le_refl _) (dk_empty s.heap I.big)
  have run := (pps_cons (pos := pos) hk hv pps_nil).run pins _ σ _ _ I1 (q _ hn)
  have zip := zip_pairTrees [some ke] [ve] X.env pos rfl rfl
  rw [arm_eval_Dict, zip, dictDisplay_pairs _ (by simp [pairTrees]) (by simp [pairTrees])]
  have sub := wpAny_subDictH (knd := nestedKind X.prog X.w) (prog := X.prog) (w := X.w) (A := X.A) (E := X.xe) (s := s) (pairs := pairTrees [some ke] [ve] X.env pos) (Q := fun d s' => EP X pins σ Q (.ref d) s') hu (by simp [pairTrees])
    (thn run fun ws s2 ⟨ps, H2, I2, rel, F, c, y, q', k, eps, e2, sub, hq, rp, fin⟩ => by
      subst eps
      obtain ⟨us, hn0, hd, _, hs⟩ := atN_dict (F := F) (ds := []) I2 sub ⟨.nil, .inr ⟨e2, rfl⟩⟩
      cases hn0
      cases rel with
      | @cons _ w _ wt r t =>
        cases t
        obtain ⟨w1, w2⟩ := w
        obtain ⟨r1, r2⟩ := r
        obtain rfl : w1 = Value.ref c := r1
        refine ⟨[(k, c, w2)], ⟨rfl, rfl, nkT_is I2 sub hq rp, True.intro⟩, hd, fun h' tk dd hs' => ?_⟩
        obtain ⟨od, I3⟩ := dN_write (t' := tk) I2 (by rw [e2]; exact True.intro) dd hs' (kvs := [(k, c, y)]) (.cons ⟨rfl, rfl, r2⟩ .nil) (show 1 ≤ sizeLine by decide) hs
        exact ⟨.ref s.heap.objs.size, _, I3, rfl, fin od⟩)
  exact wpAny_bind (wpAny_standAt (wpAny_bind (wpAny_mono sub (fun d s' h => wpAny_pure h) fun _ _ h => h)))
theorem snd_dctN (hu : X.A.units + 8 < cLine) {ke ve : Expr} {sk sv : Ex} (hk : PE X ke (tD X.K <| ev C <| sk)) (hv : PE X ve (tD X.K <| ev C <| sv)) : PE X (.Dict [some ke] [ve] pos) (tD X.K <| ev C <| .dctN sk sv) := (pe_dispN hu hk hv).imp fun σ H Q ⟨b, ρ, F, ad, r, ρ', B, R, e, h⟩ p hp => by
  simp only [ev] at e
  split at e
  · rename_i r1 ρ1 e1
    split at e
    · rename_i q1 ρ2 e2
      split at e
      · rename_i kd _ vd ρ3 e3 e4
        split at e
        · rename_i hz
          cases e
          rw [Bool.and_eq_true] at hz
          obtain ⟨k, hk⟩ := Option.isSome_iff_exists.mp hz.1
          have Ra := R.alloc (o := .dK []) hp
          refine tD.two (B.at Ra) Ra.rebase e1 e2 fun v w H' F' R' s' d1 x2 => ?_
          obtain ⟨g1, g2, g3, g4, R2⟩ := R.through B hp R'
          have lk := R'.look (d1) (stl_rd e3)
          obtain ⟨c, rfl, rc⟩ := lk_key hk lk
          cases q1 with
          | val vd' =>
            cases e4
            have rv : Rp X.K F' w vd := x2
            refine ⟨F', c, w, kd, k, rfl, g1, R'.sub, hk, rc, fun od => ?_⟩
            exact h _ _ F' (R2.over g2 g3 g4) s' ⟨p, rfl, g2, .inr ⟨od, [(k, c, w)], upd_same, .cons hk rc rv .nil⟩, g4, g3⟩
          | new _ => cases hz.2
          | «at» _ => cases hz.2
        · cases e
      · cases e
    · cases e
  · cases e
end
end Z

set_option linter.all false
set_option autoImplicit false
set_option Elab.async false
set_option maxRecDepth 100000
/-! Z, part 9c: values of a list of expressions, new objects among them still of one's own. -/
namespace Z
open PySem PySem.Spec PyProof.Rows L2
def RV.isN : RV → Bool
  | .new _ => true
  | _ => false
inductive Lvs (K : Frag) (b : Bs) (σ : St) (H : Hp) (ρ : Env) (F : Hp) (ad : Nat → Addr) : List V → List RV → Prop
  | nil : Lvs K b σ H ρ F ad [] []
  | cons {v : V} {vs : List V} {r : RV} {rs : List RV} : RvR K b σ H ρ F ad v r → (r.isN = true → ∀ p ∈ vs.zip rs, p.2.isN = true → p.1 ≠ v) → Lvs K b σ H ρ F ad vs rs → Lvs K b σ H ρ F ad (v :: vs) (r :: rs)
def tDk (K : Frag) (f : Env → Option (List RV × Env)) : TA := fun σ H Q => ∃ b ρ F ad rs ρ', BoOk b ∧ Rl K b σ H ρ F ad ∧ f ρ = some (rs, ρ') ∧
  ∀ vs H' F', Rl K b σ H' ρ' F' ad → Same F F' → Lvs K b σ H' ρ' F' ad vs rs → Q vs H'
section
variable {K : Frag} {b : Bs} {σ : St} {H H' : Hp} {ρ ρ' : Env} {F F' : Hp} {ad : Nat → Addr}
theorem Lvs.length {vs : List V} {rs : List RV} (x : Lvs K b σ H ρ F ad vs rs) : vs.length = rs.length := by
  induction x with
  | nil => rfl
  | cons _ _ _ ih => exact congrArg Nat.succ ih
theorem at_new {p : Addr} {o : HO} (e : H p = some o) (hc : ∀ (i : Nat) s d, ρ[i]? = some s → s.cell = some d → ad i ≠ p) : (b.at H ρ F ad).H0 p = some o := by
  unfold Bs.at
  dsimp only
  rw [if_neg fun ⟨i, s, d, q, c, z⟩ => hc i s d q c z]
  exact e
theorem Rl.through2 (R : Rl K b σ H ρ F ad) (B : BoOk b) {p : Addr} {o : HO} (e : H p = some o) (hF : F p = none) (h0 : b.H0 p = none) (hc : ∀ (i : Nat) s d, ρ[i]? = some s → s.cell = some d → ad i ≠ p) (R' : Rl K (b.at H ρ F ad) σ H' ρ' F' ad) :
    H' p = some o ∧ F' p = none ∧ ∀ (i : Nat) s d, ρ'[i]? = some s → s.cell = some d → ad i ≠ p := by
  have ha : (b.at H ρ F ad).H0 p = some o := at_new e hc
  refine ⟨R.temp R' e h0 hc B, ?_, fun i s d q c z => ?_⟩
  · cases q : F' p with
    | none => rfl
    | some u =>
      rcases R'.fd p u q with z | z
      · rw [show (b.at H ρ F ad).F0 = F from rfl, hF] at z; cases z
      · rw [ha] at z; cases z
  · cases s with
    | no => cases c
    | val => cases c
    | own =>
      have := R'.own i _ q
      rw [z, ha] at this; cases this
    | bor =>
      have := R'.bor i _ q
      rw [z] at this
      obtain ⟨o, ho⟩ := B p this
      rw [h0] at ho; cases ho
theorem Lvs.unbase {σ' : St} {vs : List V} {rs : List RV} (R : Rl K b σ H ρ F ad) (x : Lvs K (b.at H ρ F ad) σ' H' ρ' F' ad vs rs) : Lvs K b σ' H' ρ' F' ad vs rs := by
  induction x with
  | nil => exact .nil
  | cons h d _ ih => exact .cons (RvR.unbase R h) d ih
theorem Lvs.fresh {vs : List V} {rs : List RV} (x : Lvs K b σ H ρ F ad vs rs) : ∀ p ∈ vs.zip rs, p.2.isN = true → ∃ a, p.1 = .ref a ∧ b.H0 a = none := by
  induction x with
  | nil => intro p hp; cases hp
  | @cons v vs r rs h d _ ih =>
    intro p hp hn
    rw [List.zip_cons_cons] at hp
    rcases List.mem_cons.mp hp with rfl | hp
    · cases r with
      | new d' =>
        obtain ⟨a, e, _, _, _, h0⟩ := h
        exact ⟨a, e, h0⟩
      | val => cases hn
      | «at» => cases hn
    · exact ih p hp hn
end
section
variable {X : Cx} {C : Cf}
theorem live_nil : PA X [] (tDk X.K (evs C .nil)) := pa_nil.imp fun σ H Q ⟨b, ρ, F, ad, r, ρ', B, R, e, h⟩ => by
  cases e; exact h _ H F R (Same.refl _) .nil
theorem live_cons {e : Expr} {es : List Expr} {se : Ex} {ses : Exs} (h1 : PE X e (tD X.K <| ev C <| se)) (h2 : PA X es (tDk X.K (evs C ses))) (hs : starEach (e :: es) X.env = (false, eval e X.env) :: starEach es X.env) : PA X (e :: es) (tDk X.K (evs C (.cons se ses))) :=
  (pa_cons h1 h2 hs).imp fun σ H Q ⟨b, ρ, F, ad, r, ρ', B, R, e, h⟩ => by
    simp only [evs] at e
    split at e
    · rename_i r1 ρ1 e1
      split at e
      · rename_i rs ρ2 e2
        cases e
        refine .now B R e1 fun v H1 F1 R1 s1 x1 => ?_
        refine ⟨b.at H1 ρ1 F1 ad, ρ1, F1, ad, rs, _, B.at R1, R1.rebase, e2, fun vs H2 F2 R2 s2 x2 => ?_⟩
        refine h (v :: vs) H2 F2 (R1.unbase R2) (s1.trans s2) ?_
        cases r1 with
        | val d => exact .cons (Rp.mono s2 x1) (fun z => nomatch z) (x2.unbase R1)
        | «at» i => exact .cons x1 (fun z => nomatch z) (x2.unbase R1)
        | new d =>
          obtain ⟨a, rfl, hF, ob, hc, h0⟩ := x1
          obtain ⟨o, ho⟩ := Ob.ex ob
          obtain ⟨g1, g2, g3⟩ := R1.through2 B ho hF h0 hc R2
          refine .cons ⟨a, rfl, g2, ob.mono s2 fun u hu => ?_, g3, h0⟩ (fun _ p hp hn e => ?_) (x2.unbase R1)
          · rw [ho] at hu; cases hu; exact g1
          · obtain ⟨a2, e2, z⟩ := x2.fresh p hp hn
            rw [e2] at e
            cases e
            rw [at_new ho hc] at z
            cases z
      · cases e
    · cases e
/-- what is stored, in turn -/
theorem live_set {K : Frag} {b : Bs} {H : Hp} {F : Hp} : ∀ {is : List Nat} {rs : List RV} {vs : List V} {σ : St} {ρ ρ' : Env} {ad : Nat → Addr}, Rl K b σ H ρ F ad → Lvs K b σ H ρ F ad vs rs → noAt rs = true → setAll ρ is rs = some ρ' →
    ∃ ad', Rl K b ((is.zip vs).foldl (fun σ p => σ.set p.1 (some p.2)) σ) H ρ' F ad'
  | [], [], _, σ, ρ, ρ', ad, R, .nil, _, e => by simp [setAll] at e; subst e; exact ⟨ad, R⟩
  | [], _ :: _, _, _, _, _, _, _, _, _, e => by simp [setAll] at e
  | _ :: _, [], _, _, _, _, _, _, _, _, e => by simp [setAll] at e
  | i :: is, r :: rs, _, σ, ρ, ρ', ad, R, .cons (v := v) (vs := vs) x dj xs, hn, e => by
    have hn2 : noAt rs = true := by
      unfold noAt at hn ⊢
      rw [List.all_cons, Bool.and_eq_true] at hn
      exact hn.2
    cases r with
    | «at» j =>
      unfold noAt at hn
      rw [List.all_cons, Bool.and_eq_true] at hn
      cases hn.1
    | val d =>
      simp only [setAll, keep] at e
      have R1 := R.setVal (i := i) (show Rp K F v d from x)
      refine live_set (is := is) (σ := σ.set i (some v)) R1 ?_ hn2 e
      exact lvs_set xs hn2 (fun j t q c => by
        by_cases z : j = i
        · subst z
          by_cases hi : j < ρ.length
          · rw [List.getElem?_set_self hi] at q; cases q; exact absurd c (by intro c; cases c.choose_spec)
          · rw [List.getElem?_eq_none (by rw [List.length_set]; omega)] at q; cases q
        · rw [List.getElem?_set_ne (Ne.symm z)] at q
          exact .inl ⟨_, q, c, rfl⟩)
    | new d =>
      simp only [setAll, keep] at e
      obtain ⟨a, rfl, hF, ob, hc, h0⟩ := x
      have R1 := R.setOwn (i := i) hF ob hc h0
      refine live_set (is := is) (σ := σ.set i (some (.ref a))) R1 ?_ hn2 e
      refine lvs_set2 xs hn2 (a := a) (fun p hp hN e => dj rfl p hp hN e) (fun j t q c => ?_)
      by_cases z : j = i
      · exact .inr (by rw [if_pos z])
      · rw [List.getElem?_set_ne (Ne.symm z)] at q
        exact .inl ⟨_, q, c, by rw [if_neg z]⟩
where
  lvs_set {K : Frag} {b : Bs} {H : Hp} {F : Hp} {σ σ' : St} {ρ ρ1 : Env} {ad ad1 : Nat → Addr} : ∀ {vs : List V} {rs : List RV}, Lvs K b σ H ρ F ad vs rs → noAt rs = true → (∀ (j : Nat) t, ρ1[j]? = some t → (∃ d, t.cell = some d) → (∃ j', ρ[j']? = some t ∧ (∃ d, t.cell = some d) ∧ ad1 j = ad j') ∨ False) → Lvs K b σ' H ρ1 F ad1 vs rs
    | _, _, .nil, _, _ => .nil
    | _, r :: rs, .cons x dj xs, hn, g => by
      have hn2 : noAt rs = true := by
        unfold noAt at hn ⊢
        rw [List.all_cons, Bool.and_eq_true] at hn
        exact hn.2
      refine .cons ?_ dj (lvs_set xs hn2 g)
      cases r with
      | «at» j =>
        unfold noAt at hn
        rw [List.all_cons, Bool.and_eq_true] at hn
        cases hn.1
      | val d => exact x
      | new d =>
        obtain ⟨a, e, hF, ob, hc, h0⟩ := x
        refine ⟨a, e, hF, ob, fun j s d q c z => ?_, h0⟩
        rcases g j s q ⟨d, c⟩ with ⟨j', q', ⟨d', c'⟩, e'⟩ | h
        · exact hc j' s d' q' c' (by rw [← e']; exact z)
        · exact h
  lvs_set2 {K : Frag} {b : Bs} {H : Hp} {F : Hp} {σ σ' : St} {ρ ρ1 : Env} {ad ad1 : Nat → Addr} {a : Addr} : ∀ {vs : List V} {rs : List RV}, Lvs K b σ H ρ F ad vs rs → noAt rs = true → (∀ p ∈ vs.zip rs, p.2.isN = true → p.1 ≠ .ref a) → (∀ (j : Nat) t, ρ1[j]? = some t → (∃ d, t.cell = some d) → (∃ j', ρ[j']? = some t ∧ (∃ d, t.cell = some d) ∧ ad1 j = ad j') ∨ ad1 j = a) → Lvs K b σ' H ρ1 F ad1 vs rs
    | _, _, .nil, _, _, _ => .nil
    | _, r :: rs, .cons (v := v) (vs := vs) x dj xs, hn, ne, g => by
      have hn2 : noAt rs = true := by
        unfold noAt at hn ⊢
        rw [List.all_cons, Bool.and_eq_true] at hn
        exact hn.2
      refine .cons ?_ dj (lvs_set2 xs hn2 (fun p hp => ne p (by rw [List.zip_cons_cons]; exact List.mem_cons_of_mem _ hp)) g)
      cases r with
      | «at» j =>
        unfold noAt at hn
        rw [List.all_cons, Bool.and_eq_true] at hn
        cases hn.1
      | val d => exact x
      | new d =>
        obtain ⟨a', e, hF, ob, hc, h0⟩ := x
        refine ⟨a', e, hF, ob, fun j s d q c z => ?_, h0⟩
        rcases g j s q ⟨d, c⟩ with ⟨j', q', ⟨d', c'⟩, e'⟩ | h
        · exact hc j' s d' q' c' (by rw [← e']; exact z)
        · refine ne (v, .new _) (by rw [List.zip_cons_cons]; exact List.mem_cons_self) rfl ?_
          rw [e, ← h, z]
end
end Z

set_option linter.all false
set_option autoImplicit false
set_option Elab.async false
set_option maxRecDepth 100000
/-! Z, part 10: what is walked; targets; comprehensions. -/
namespace Z
open PySem PySem.Spec PyProof.Rows L2
/-- an iterator gives the items ds, while what is walked (vs, of the data us) stands -/
structure Wk (K : Frag) (F0 : Hp) (J : L2.It) (vs : List V) (us : List D) (ds : List D) : Prop where
  go : ∀ (i : Nat) F H, i < ds.length → Same F0 F → Same F H → Lks K F H vs us → J.go i H
  stop : ∀ F H, Same F0 F → Same F H → Lks K F H vs us → J.stop ds.length H
  yld : ∀ (i : Nat) F H x H' d, ds[i]? = some d → Same F0 F → Same F H → Lks K F H vs us → J.yld i H x H' → (H' = H ∧ Rp K F x d) ∨ ∃ p xs es, x = .ref p ∧ H p = none ∧ H' = upd H p (.tup xs) ∧ d = .tup es ∧ Rps K F xs es
def tDi (K : Frag) (f : Env → Option (List D × List RV × Env)) : TI := fun σ H R => ∃ b ρ F ad ds rs us ρ', BoOk b ∧ Rl K b σ H ρ F ad ∧ f ρ = some (ds, rs, ρ') ∧ rds ρ' rs = some us ∧
  ∀ J vs H' F', Rl K b σ H' ρ' F' ad → Same F F' → Hds K σ F' vs rs → Wk K F' J vs us ds → R J H'
theorem _root_.L2.PI.imp {X : Cx} {tg e : Expr} {t t' : TI} (h : PI X tg e t) (i : ∀ σ H R, t' σ H R → t σ H R) : PI X tg e t' := ⟨fun pins s σ H R I q => h.run pins s σ H R I (i σ H R q)⟩
theorem PI.case {X : Cx} {tg e : Expr} {t : TI} (h : ∀ σ H R, t σ H R → ∃ t', PI X tg e t' ∧ t' σ H R) : PI X tg e t := ⟨fun pins s σ H R I q => by
  obtain ⟨t', h', q'⟩ := h σ H R q
  exact h'.run pins s σ H R I q'⟩
theorem wk_list {K : Frag} {F0 : Hp} {a : Addr} {xs : List D} : Wk K F0 (Itl K a) [.ref a] [.lst xs] xs where
  go := fun i F H hi s0 s l => by
    obtain ⟨a', us, e, h1, r1⟩ := l.1
    cases e
    obtain ⟨u, hu, _⟩ := r1.get (List.getElem?_eq_getElem hi)
    exact ⟨us, u, .of h1, hu⟩
  stop := fun F H s0 s l => by
    obtain ⟨a', us, e, h1, r1⟩ := l.1
    cases e
    exact ⟨us, .of h1, Nat.le_of_eq r1.length⟩
  yld := fun i F H x H' d hd s0 s l y => by
    obtain ⟨a', us, e, h1, r1⟩ := l.1
    cases e
    obtain ⟨u, hu, ru⟩ := r1.get hd
    obtain ⟨rfl, y⟩ := y
    have := y us (.of h1)
    rw [hu] at this
    cases this
    exact .inl ⟨rfl, ru⟩
theorem wk_tup {K : Frag} {F0 : Hp} {a : Addr} {xs : List D} : Wk K F0 (Itt K a) [.ref a] [.tup xs] xs where
  go := fun i F H hi s0 s l => by
    obtain ⟨a', us, e, h1, r1⟩ := l.1
    cases e
    obtain ⟨u, hu, _⟩ := r1.get (List.getElem?_eq_getElem hi)
    exact ⟨us, u, Same.seqT s h1, hu⟩
  stop := fun F H s0 s l => by
    obtain ⟨a', us, e, h1, r1⟩ := l.1
    cases e
    exact ⟨us, Same.seqT s h1, Nat.le_of_eq r1.length⟩
  yld := fun i F H x H' d hd s0 s l y => by
    obtain ⟨a', us, e, h1, r1⟩ := l.1
    cases e
    obtain ⟨u, hu, ru⟩ := r1.get hd
    obtain ⟨rfl, y⟩ := y
    have := y us (Same.seqT s h1)
    rw [hu] at this
    cases this
    exact .inl ⟨rfl, ru⟩
theorem wk_rng {K : Frag} {F0 : Hp} {lo : Int} {n : Nat} : Wk K F0 (Itr lo n) [] [] (rngN lo n) where
  go := fun i F H hi s0 s l => by
    unfold rngN at hi
    rw [List.length_map, List.length_range] at hi
    exact hi
  stop := fun F H s0 s l => by
    unfold rngN
    rw [List.length_map, List.length_range]
    exact Nat.le_refl n
  yld := fun i F H x H' d hd s0 s l y => by
    obtain ⟨rfl, rfl⟩ := y
    unfold rngN at hd
    rw [List.getElem?_map] at hd
    obtain ⟨k, hk, rfl⟩ := Option.map_eq_some_iff.mp hd
    have hi := (List.getElem?_eq_some_iff.mp hk).1
    rw [List.length_range] at hi
    rw [List.getElem?_range hi] at hk
    cases hk
    exact .inl ⟨rfl, .int _⟩
theorem enumD_len : ∀ (n : Nat) (xs : List D), (enumD n xs).length = xs.length
  | _, [] => rfl
  | n, _ :: r => congrArg Nat.succ (enumD_len (n + 1) r)
theorem enumD_get : ∀ (n : Nat) (xs : List D) (i : Nat), (enumD n xs)[i]? = xs[i]?.map fun d => .tup [.int ((n + i : Nat) : Int), d]
  | _, [], _ => rfl
  | n, d :: r, 0 => rfl
  | n, _ :: r, i + 1 => by
    unfold enumD
    rw [List.getElem?_cons_succ, List.getElem?_cons_succ, enumD_get (n + 1) r i]
    rw [show n + 1 + i = n + (i + 1) by omega]
theorem wk_enum {K : Frag} {F0 : Hp} {a : Addr} {xs : List D} : Wk K F0 (Ite K a) [.ref a] [.lst xs] (enumD 0 xs) where
  go := fun i F H hi s0 s l => by
    obtain ⟨a', us, e, h1, r1⟩ := l.1
    cases e
    rw [enumD_len] at hi
    obtain ⟨u, hu, _⟩ := r1.get (List.getElem?_eq_getElem hi)
    exact ⟨us, u, .of h1, hu⟩
  stop := fun F H s0 s l => by
    obtain ⟨a', us, e, h1, r1⟩ := l.1
    cases e
    rw [enumD_len]
    exact ⟨us, .of h1, Nat.le_of_eq r1.length⟩
  yld := fun i F H x H' d hd s0 s l y => by
    obtain ⟨a', us, e, h1, r1⟩ := l.1
    cases e
    rw [enumD_get, Nat.zero_add] at hd
    obtain ⟨z, hz, rfl⟩ := Option.map_eq_some_iff.mp hd
    obtain ⟨u, hu, ru⟩ := r1.get hz
    obtain ⟨T, w, rfl, hT, rfl, y⟩ := y
    have := y us (.of h1)
    rw [hu] at this
    cases this
    exact .inr ⟨T, _, _, rfl, hT, rfl, rfl, .cons (.int _) (.cons ru .nil)⟩
theorem zipD_len : ∀ xs ys : List D, (zipD xs ys).length = min xs.length ys.length
  | [], _ => by simp [zipD]
  | _ :: _, [] => by simp [zipD]
  | x :: xs, y :: ys => by rw [zipD, List.length_cons, zipD_len xs ys, List.length_cons, List.length_cons]; omega
theorem zipD_get : ∀ (xs ys : List D) (i : Nat) (d : D), (zipD xs ys)[i]? = some d → ∃ x y, xs[i]? = some x ∧ ys[i]? = some y ∧ d = .tup [x, y]
  | [], _, i, d, h => by simp [zipD] at h
  | _ :: _, [], i, d, h => by simp [zipD] at h
  | x :: xs, y :: ys, 0, d, h => by
    rw [zipD, List.getElem?_cons_zero] at h
    cases h
    exact ⟨x, y, rfl, rfl, rfl⟩
  | x :: xs, y :: ys, i + 1, d, h => by
    rw [zipD, List.getElem?_cons_succ] at h
    obtain ⟨a, b, e1, e2, e3⟩ := zipD_get xs ys i d h
    exact ⟨a, b, by rw [List.getElem?_cons_succ]; exact e1, by rw [List.getElem?_cons_succ]; exact e2, e3⟩
theorem wk_zip {K : Frag} {F0 : Hp} {a b : Addr} {xs ys : List D} : Wk K F0 (Itz K a b) [.ref a, .ref b] [.lst xs, .lst ys] (zipD xs ys) where
  go := fun i F H hi s0 s l => by
    obtain ⟨a', us, e, h1, r1⟩ := l.1
    cases e
    obtain ⟨b', ws, e, h2, r2⟩ := l.2.1
    cases e
    rw [zipD_len] at hi
    obtain ⟨u, hu, _⟩ := r1.get (List.getElem?_eq_getElem (show i < xs.length by omega))
    obtain ⟨w, hw, _⟩ := r2.get (List.getElem?_eq_getElem (show i < ys.length by omega))
    exact ⟨us, ws, u, w, .of h1, .of h2, hu, hw⟩
  stop := fun F H s0 s l => by
    obtain ⟨a', us, e, h1, r1⟩ := l.1
    cases e
    obtain ⟨b', ws, e, h2, r2⟩ := l.2.1
    cases e
    have e1 := r1.length
    have e2 := r2.length
    refine ⟨us, ws, .of h1, .of h2, ?_⟩
    rw [zipD_len]
    omega
  yld := fun i F H x H' d hd s0 s l y => by
    obtain ⟨a', us, e, h1, r1⟩ := l.1
    cases e
    obtain ⟨b', ws, e, h2, r2⟩ := l.2.1
    cases e
    obtain ⟨x1, y1, z1, z2, rfl⟩ := zipD_get _ _ _ _ hd
    obtain ⟨u, hu, ru⟩ := r1.get z1
    obtain ⟨w, hw, rw'⟩ := r2.get z2
    obtain ⟨T, p, q, rfl, hT, rfl, y1, y2⟩ := y
    have g1 := y1 us (.of h1)
    rw [hu] at g1
    cases g1
    have g2 := y2 ws (.of h2)
    rw [hw] at g2
    cases g2
    exact .inr ⟨T, _, _, rfl, hT, rfl, rfl, .cons ru (.cons rw' .nil)⟩
theorem wk_dng {K : Frag} {F0 : Hp} {lo : Int} {n : Nat} : Wk K F0 (Itc lo (-1) n) [] [] (dngN lo n) where
  go := fun i F H hi s0 s l => by
    unfold dngN at hi
    rw [List.length_map, List.length_range] at hi
    exact hi
  stop := fun F H s0 s l => by
    unfold dngN
    rw [List.length_map, List.length_range]
    exact Nat.le_refl n
  yld := fun i F H x H' d hd s0 s l y => by
    obtain ⟨rfl, rfl⟩ := y
    unfold dngN at hd
    rw [List.getElem?_map] at hd
    obtain ⟨k, hk, rfl⟩ := Option.map_eq_some_iff.mp hd
    have hi := (List.getElem?_eq_some_iff.mp hk).1
    rw [List.length_range] at hi
    rw [List.getElem?_range hi] at hk
    cases hk
    have e : lo + (i : Nat) * (-1 : Int) = lo - (i : Int) := by omega
    rw [e]
    exact .inl ⟨rfl, .int _⟩
/-! ### the keys of a dict with such keys -/
def ItN (a : Addr) (od : Obj) (kvs : List NE) : L2.It where
  go := fun i H => H a = some (dN a od kvs) ∧ i < kvs.length
  yld := fun i H x H' => H' = H ∧ ∃ p, kvs[i]? = some p ∧ x = .ref p.2.1
  stop := fun i H => H a = some (dN a od kvs) ∧ kvs.length ≤ i
theorem nes_get : ∀ {kvs : List NE} {us : List (NestedKey × Addr × Value)}, NEs kvs us → ∀ {i : Nat} {p : NE}, kvs[i]? = some p → ∃ q, us[i]? = some q ∧ p.2.1 = q.2.1
  | _, _, .nil, i, p, h => by simp at h
  | _, _, .cons r t, 0, p, h => by
    simp only [List.getElem?_cons_zero, Option.some.injEq] at h ⊢
    subst h
    exact ⟨_, rfl, r.2.1⟩
  | _, _, .cons r t, i + 1, p, h => by
    rw [List.getElem?_cons_succ] at h ⊢
    exact nes_get t h
theorem dNp_get {od : Obj} {a : Addr} {kvs : List NE} (h : DNp od a kvs) {es : Array DictEntry} {ep : Nat} (hd : od.data = .dict es ep) : es.size = kvs.length ∧ ∀ {i : Nat} {p : NE}, kvs[i]? = some p → ∃ en, es[i]? = some en ∧ en.key = .ref p.2.1 := by
  obtain ⟨w, us, es', ep', _, _, hn, _, hd', he, _⟩ := h
  obtain ⟨rfl, rfl⟩ := dict_ep hd hd'
  have e1 : us.length = kvs.length := by have := congrArg List.length hn.keys; simpa using this
  refine ⟨by rw [← Array.length_toList, he, List.length_map, e1], fun {i p} h => ?_⟩
  obtain ⟨q, hq, e⟩ := nes_get hn h
  refine ⟨neOf w q, ?_, by rw [e]; rfl⟩
  rw [← Array.getElem?_toList, he, List.getElem?_map, hq]
  rfl
section
variable {P : Program} {w : World} {K : Frag} {tg : Expr} {od : Obj} {es : Array DictEntry} {ep : Nat}
theorem turn_N {kvs : List NE} {a : Addr} (it : Addr) (hod : od.data = .dict es ep) : Turn P w K tg (ItN a od kvs) [it] it (fun i h => h.IsKeyIter it a i kvs.length ep) where
  mem := by simp
  obj := fun i h st b hb => by
    obtain rfl : b = it := by simpa using hb
    obtain ⟨oi, z1, z2, z3⟩ := st
    exact ⟨oi, z1, fun v z => by rw [z3] at z; cases z⟩
  keep := fun i h h' st k => st.at fun oi z => k it (by simp) oi z
  item := by
    intro X hP hw hK hc i pins s σ H E I hf st hg
    subst hP hw hK
    obtain ⟨ha, hi⟩ := hg
    obtain ⟨f0, f1, f2, f3, f4, f5⟩ := hf it (by simp)
    obtain ⟨hget, hp⟩ := dN_get I ha
    obtain ⟨hz, ent⟩ := dNp_get hp hod
    obtain ⟨en, hen, hkey⟩ := ent (List.getElem?_eq_getElem hi)
    refine next_key_item st hget hod hz hen fun h' st' sb => ?_
    have J : Inv X pins σ H { s with heap := h' } := I.turned (t' := s.toks) (fun b ob hb z => (sb.2 b hb).trans z) f0 f1 f3 f4 f5
    obtain ⟨oi, z1, z2, z3⟩ := id st'
    refine ⟨en.key, rfl, go_of (s := { s with heap := h' }) z1 z2 z3 (by decide) ⟨.ref kvs[i].2.1, H, J, hkey, ⟨rfl, kvs[i], List.getElem?_eq_getElem hi, rfl⟩, st', fun b hb => (hf b hb).1⟩⟩
  done := by
    intro X hP hw hK hc i pins s σ H E I hf st hg
    subst hP hw hK
    obtain ⟨ha, hi⟩ := hg
    obtain ⟨f0, f1, f2, f3, f4, f5⟩ := hf it (by simp)
    obtain ⟨hget, hp⟩ := dN_get I ha
    exact next_key_end (I.ok.hd hc) st hget hod (dNp_get hp hod).1 hi fun h' eb => ⟨rfl, I.turned (t' := s.toks) (fun b ob hb z => eb b ob hb z) f0 f1 f3 f4 f5⟩
  self := fun A i s Q E st h => by
    refine wpAny_pyIter_slot st.typeIs F.slot_dict_keyiterator_iter (wpAny_call_entry F.slot_dict_keyiterator_iter st.typeIs F.entry_dict_keyiterator_iter ?_ (F.args_dict_keyiterator_iter_1 _))
    exact wpAny_pure ⟨_, rfl, "dict_keyiterator", _, st.typeIs, F.slot_dict_keyiterator_next.lookup, h⟩
def iN (te : TE) : TI := fun σ H R => te σ H fun v H1 => ∃ a od kvs, v = .ref a ∧ H1 a = some (dN a od kvs) ∧ R (ItN a od kvs) H1
theorem pi_N {X : Cx} {e : Expr} {te : TE} (he : PE X e te) : PI X tg e (iN te) := by
  refine ⟨fun pins s σ H R I h => ?_⟩
  refine thn (he.run pins s σ H _ I h) fun u s1 ⟨x, H1, I1, rx, a, od, kvs, ex, ha, q⟩ => ?_
  subst ex
  obtain rfl : u = Value.ref a := rx
  obtain ⟨hget, hp⟩ := dN_get I1 ha
  obtain ⟨w, us, es, ep, hl, hs, hn, hx, hd, he, _⟩ := id hp
  refine iter_keys hs hget hx hd (pi_one (tk := s1.toks) I1 _ (turn_N _ hd) ⟨_, Heap.get?_push_size _ rfl, rfl, ?_⟩ q)
  rw [(dNp_get hp hd).1] <;> rfl
end
theorem wk_N {K : Frag} {F0 : Hp} {a : Addr} {od : Obj} {kvs : List NE} {ds : List (D × D)} (h : F0 a = some (dN a od kvs)) (r : NRps K F0 kvs ds) : Wk K F0 (ItN a od kvs) [] [] (ds.map (·.1)) where
  go := fun i F H hi s0 s l => ⟨s _ _ (s0 _ _ h), by rw [List.length_map] at hi; rw [r.length]; exact hi⟩
  stop := fun F H s0 s l => ⟨s _ _ (s0 _ _ h), by rw [List.length_map, r.length]; exact Nat.le_refl _⟩
  yld := fun i F H x H' d hd s0 s l y => by
    obtain ⟨rfl, p, hp, rfl⟩ := y
    left
    refine ⟨rfl, ?_⟩
    have rk := keys_rps r
    obtain ⟨v, hv, rv⟩ := rk.get hd
    rw [List.getElem?_map, hp] at hv
    cases hv
    exact rv.mono s0
section
variable {X : Cx} {C : Cf} {pos : Pos} {tg a c : Expr} {sa sc : Ex}
theorem snd_seq (ha : PE X a (tD X.K <| ev C <| sa)) : PI X tg a (tDi X.K <| itv C <| .seq sa) := PI.case fun σ H R ⟨b, ρ, F, ad, ds, rs, us, ρ', B, R0, e, eu, h⟩ => by
  simp only [itv] at e
  split at e
  · rename_i r ρ1 e1
    split at e
    · rename_i l el
      cases e
      unfold items at el
      split at el
      · rename_i xs ex
        cases el
        refine ⟨_, pi_list ha, .now B R0 e1 fun v H1 F1 R1 s1 x1 => ?_⟩
        obtain ⟨F2, R2, s2, d2⟩ := R1.hold x1
        obtain ⟨a', us', rfl, h1, r1⟩ := R2.look d2 ex
        refine ⟨a', rfl, ⟨us', .of h1⟩, h _ [.ref a'] H1 F2 R2 (s1.trans s2) (.cons d2 .nil) ?_⟩
        unfold rds at eu
        rw [ex] at eu
        cases eu
        exact wk_list
      · rename_i xs ex
        cases el
        refine ⟨_, pi_tup ha, .now B R0 e1 fun v H1 F1 R1 s1 x1 => ?_⟩
        obtain ⟨F2, R2, s2, d2⟩ := R1.hold x1
        obtain ⟨a', us', rfl, h1, r1⟩ := R2.look d2 ex
        refine ⟨a', rfl, ⟨us', Same.seqT R2.sub h1⟩, h _ [.ref a'] H1 F2 R2 (s1.trans s2) (.cons d2 .nil) ?_⟩
        unfold rds at eu
        rw [ex] at eu
        cases eu
        exact wk_tup
      · cases el
    · unfold keysOf at e
      split at e
      · rename_i kvs ρ2 e2
        split at e
        · rename_i hz
          cases e
          cases eu
          rw [Bool.and_eq_true] at hz
          refine ⟨_, pi_N ha, .now B R0 e1 fun v H1 F1 R1 s1 x1 => ?_⟩
          obtain ⟨F2, R2, s2, d2⟩ := R1.hold x1
          obtain ⟨F3, R3, s3, r3⟩ := R2.stl d2 e2
          cases r3 with
          | dic q r =>
            cases r with
            | nil => simp at hz
            | cons r1 r2 =>
              have := hz.1
              unfold keyed at this
              rw [List.all_cons, nkT_kD] at this
              cases this
          | @dicN a' od us _ q r =>
            exact ⟨a', od, us, rfl, R3.sub _ _ q, h _ [] H1 F3 R3 (s1.trans (s2.trans s3)) .nil (wk_N q r)⟩
        · cases e
      · cases e
  · cases e
theorem snd_rng1 {p : Pos} (hg : Gl X "range") (hm : X.mg "range" = none) (ha : PE X a (tD X.K <| ev C <| sa)) (hs : starEach [a] X.env = [(false, eval a X.env)]) : PI X tg (.Call (.Name "range" p) [a] [] pos) (tDi X.K <| itv C <| .rng1 sa) :=
  (pi_range1 hg hm (pa_cons ha pa_nil hs) hs).imp fun σ H R ⟨b, ρ, F, ad, ds, rs, us, ρ', B, R0, e, eu, h⟩ => by
    simp only [itv] at e
    split at e
    · rename_i n ρ1 e1
      split at e
      · rename_i hz
        cases e
        cases eu
        refine .now B R0 e1 fun v H1 F1 R1 s1 x1 => ?_
        cases x1
        have hL : LL = 16000000 := rfl
        exact ⟨n, rfl, by omega, by omega, h _ [] H1 F1 R1 s1 .nil wk_rng⟩
      · cases e
    · cases e
theorem snd_rng2 {p : Pos} (hg : Gl X "range") (hm : X.mg "range" = none) (ha : PE X a (tD X.K <| ev C <| sa)) (hc : PE X c (tD X.K <| ev C <| sc)) (hs : starEach [a, c] X.env = [(false, eval a X.env), (false, eval c X.env)]) (hs2 : starEach [c] X.env = [(false, eval c X.env)]) :
    PI X tg (.Call (.Name "range" p) [a, c] [] pos) (tDi X.K <| itv C <| .rng2 sa sc) :=
  (pi_range2 hg hm (pa_cons ha (pa_cons hc pa_nil hs2) (by rw [hs, hs2])) hs hs2).imp fun σ H R ⟨b, ρ, F, ad, ds, rs, us, ρ', B, R0, e, eu, h⟩ => by
    simp only [itv] at e
    split at e
    · rename_i n ρ1 e1
      split at e
      · rename_i m ρ2 e2
        split at e
        · rename_i hz
          cases e
          cases eu
          refine .now B R0 e1 fun v H1 F1 R1 s1 x1 => ?_
          cases x1
          refine .now B R1 e2 fun v H2 F2 R2 s2 x2 => ?_
          cases x2
          have hL : LL = 16000000 := rfl
          exact ⟨n, m, rfl, ⟨by omega, by omega, by omega, by omega⟩, h _ [] H2 F2 R2 (s1.trans s2) .nil wk_rng⟩
        · cases e
      · cases e
    · cases e
theorem snd_rng3 {p : Pos} {c2 : Expr} {sc2 : Ex} (hg : Gl X "range") (hm : X.mg "range" = none) (ha : PE X a (tD X.K <| ev C <| sa)) (hc : PE X c (tD X.K <| ev C <| sc)) (hd : PE X c2 (tD X.K <| ev C <| sc2)) (n1 : ∀ r env, starEach (a :: r) env = (false, eval a env) :: starEach r env) (n2 : ∀ r env, starEach (c :: r) env = (false, eval c env) :: starEach r env) (n3 : ∀ r env, starEach (c2 :: r) env = (false, eval c2 env) :: starEach r env) :
    PI X tg (.Call (.Name "range" p) [a, c, c2] [] pos) (tDi X.K <| itv C <| .rng3 sa sc sc2) :=
  (pi_range3 hg hm (pa_cons ha (pa_cons hc (pa_cons hd pa_nil (n3 _ _)) (n2 _ _)) (n1 _ _)) (n1 _ _) (by rw [n2, n3]; rfl)).imp fun σ H R ⟨b, ρ, F, ad, ds, rs, us, ρ', B, R0, e, eu, h⟩ => by
    simp only [itv] at e
    split at e
    · rename_i n ρ1 e1
      split at e
      · rename_i m ρ2 e2
        split at e
        · rename_i st ρ3 e3
          split at e
          · rename_i hz
            obtain ⟨z1, z2, rfl⟩ := hz
            cases e
            cases eu
            refine .now B R0 e1 fun v H1 F1 R1 s1 x1 => ?_
            cases x1
            refine .now B R1 e2 fun v H2 F2 R2 s2 x2 => ?_
            cases x2
            refine .now B R2 e3 fun v H3 F3 R3 s3 x3 => ?_
            cases x3
            have hL : LL = 16000000 := rfl
            exact ⟨n, m, -1, (n - m).toNat, rfl, RgC.neg (by omega) (by omega) (by omega) (by omega), h _ [] H3 F3 R3 (s1.trans (s2.trans s3)) .nil wk_dng⟩
          · cases e
        · cases e
      · cases e
    · cases e
theorem snd_zip {p tpos : Pos} {elts : List Expr} {kk : Nat} (hg : Gl X "zip") (hm : X.mg "zip" = none) (ha : PE X a (tD X.K <| ev C <| sa)) (hc : PE X c (tD X.K <| ev C <| sc)) (n1 : ∀ r env, starEach (a :: r) env = (false, eval a env) :: starEach r env) (n2 : ∀ r env, starEach (c :: r) env = (false, eval c env) :: starEach r env) :
    PI X (.Tuple elts kk tpos) (.Call (.Name "zip" p) [a, c] [] pos) (tDi X.K <| itv C <| .zip sa sc) := (pi_zip hg hm (pa_cons ha (pa_cons hc pa_nil (n2 _ _)) (n1 _ _)) (n1 _ _) (by rw [n2]; rfl)).imp fun σ H R ⟨b, ρ, F, ad, ds, rs, us, ρ', B, R0, e, eu, h⟩ => by
  simp only [itv] at e
  split at e
  · rename_i r ρ1 e1
    split at e
    · rename_i q ρ2 e2
      split at e
      · rename_i xs ys ex ey
        cases e
        refine tD.two B R0 e1 e2 fun v w H1 F1 R1 s1 d1 x2 => ?_
        obtain ⟨F2, R2, s2, d2⟩ := R1.hold x2
        have d1 := d1.mono s2
        obtain ⟨a', us', rfl, h1, r1⟩ := R2.look d1 ex
        obtain ⟨b', ws', rfl, h2, r2⟩ := R2.look d2 ey
        refine ⟨a', b', us', ws', rfl, .of h1, .of h2, h _ [.ref a', .ref b'] H1 F2 R2 (s1.trans s2) (.cons d1 (.cons d2 .nil)) ?_⟩
        unfold rds at eu
        rw [ex] at eu
        unfold rds at eu
        rw [ey] at eu
        cases eu
        exact wk_zip
      · cases e
    · cases e
  · cases e
theorem snd_enum {p tpos : Pos} {elts : List Expr} {kk : Nat} (hg : Gl X "enumerate") (hm : X.mg "enumerate" = none) (ha : PE X a (tD X.K <| ev C <| sa)) (hs : starEach [a] X.env = [(false, eval a X.env)]) :
    PI X (.Tuple elts kk tpos) (.Call (.Name "enumerate" p) [a] [] pos) (tDi X.K <| itv C <| .enum sa) := (pi_enum hg hm (pa_cons ha pa_nil hs) hs).imp fun σ H R ⟨b, ρ, F, ad, ds, rs, us, ρ', B, R0, e, eu, h⟩ => by
  simp only [itv] at e
  split at e
  · rename_i r ρ1 e1
    split at e
    · rename_i xs ex
      cases e
      refine .now B R0 e1 fun v H1 F1 R1 s1 x1 => ?_
      obtain ⟨F2, R2, s2, d2⟩ := R1.hold x1
      obtain ⟨a', us', rfl, h1, r1⟩ := R2.look d2 ex
      refine ⟨a', us', rfl, .of h1, h _ [.ref a'] H1 F2 R2 (s1.trans s2) (.cons d2 .nil) ?_⟩
      unfold rds at eu
      rw [ex] at eu
      cases eu
      exact wk_enum
    · cases e
  · cases e
end
end Z

set_option linter.all false
set_option autoImplicit false
set_option Elab.async false
set_option maxRecDepth 100000
/-! Z, part 11: targets that are names; comprehensions. -/
namespace Z
open PySem PySem.Spec PyProof.Rows L2
/-! ### targets -/
def tgN (K : Frag) (f : D → Env → Option Env) (own : List Nat) : TG := fun v σ H Q => ∃ b ρ F ad d ρ', Rl K b σ H ρ F ad ∧ Rp K F v d ∧ f d ρ = some ρ' ∧
  ∀ σ', Rl K b σ' H ρ' F ad → σ'.length = σ.length → (∀ i, i ∉ own → σ'[i]? = σ[i]?) → Q σ' H
def tgNs (K : Frag) (f : List D → Env → Option Env) (own : List Nat) : TGs := fun vs σ H Q => ∃ b ρ F ad ds ρ', Rl K b σ H ρ F ad ∧ Rps K F vs ds ∧ f ds ρ = some ρ' ∧
  ∀ σ', Rl K b σ' H ρ' F ad → σ'.length = σ.length → (∀ i, i ∉ own → σ'[i]? = σ[i]?) → Q σ' H
theorem _root_.L2.PG.imp {X : Cx} {e : Expr} {t t' : TG} (h : PG X e t) (i : ∀ v σ H Q, t' v σ H Q → t v σ H Q) : PG X e t' := ⟨fun pins s σ H v u Q I r q => h.run pins s σ H v u Q I r (i v σ H Q q)⟩
theorem _root_.L2.PGs.imp {X : Cx} {e : List Expr} {t t' : TGs} (h : PGs X e t) (i : ∀ v σ H Q, t' v σ H Q → t v σ H Q) : PGs X e t' := ⟨fun pins s σ H v u Q I r q => h.run pins s σ H v u Q I r (i v σ H Q q)⟩
def Tgs.len : Tgs → Nat
  | .nil => 0
  | .cons _ r => r.len + 1
theorem gvs_len {C : Cf} : ∀ {gs : Tgs} {ds : List D} {ρ ρ' : Env}, gvs C gs ds ρ = some ρ' → ds.length = gs.len
  | .nil, [], _, _, _ => rfl
  | .nil, _ :: _, _, _, e => by simp [gvs] at e
  | .cons _ _, [], _, _, e => by simp [gvs] at e
  | .cons g gs, d :: ds, ρ, ρ', e => by
    simp only [gvs] at e
    split at e
    · exact congrArg Nat.succ (gvs_len e)
    · cases e
section
variable {X : Cx} {C : Cf} {pos : Pos} {own : List Nat}
theorem snd_gnm {i : Nat} {x : Str} (hN : X.N.Nodup) (hi : X.N[i]? = some x) (hx : Loc X.env.scope x) (ho : i ∈ own) (hf : X.fn x = true ∨ X.env.scope.names.lookup x = some .local) : PG X (.Name x pos) (tgN X.K (gv C (.nm i)) own) :=
  (pg_name hN hi hx hf).imp fun v σ H Q ⟨b, ρ, F, ad, d, ρ', R, r, e, h⟩ => by
    simp only [gv] at e
    cases e
    exact h _ (R.setVal r) (by rw [List.length_set]) fun j hj => List.getElem?_set_ne fun (z : i = j) => hj (z ▸ ho)
theorem snd_gnil : PGs X [] (tgNs X.K (gvs C .nil) own) := pgs_nil.imp fun vs σ H Q ⟨b, ρ, F, ad, ds, ρ', R, r, e, h⟩ => by
  cases ds with
  | nil =>
    cases r
    simp only [gvs] at e
    cases e
    exact ⟨rfl, h σ R rfl fun _ _ => rfl⟩
  | cons => simp [gvs] at e
theorem snd_gcons {e : Expr} {es : List Expr} {g : Tg} {gs : Tgs} (h1 : PG X e (tgN X.K (gv C g) own)) (h2 : PGs X es (tgNs X.K (gvs C gs) own)) (hs : (assignEach (e :: es) X.env).map (·.2) = assign e X.env :: (assignEach es X.env).map (·.2)) :
    PGs X (e :: es) (tgNs X.K (gvs C (.cons g gs)) own) := (pgs_cons h1 h2 hs).imp fun vs σ H Q ⟨b, ρ, F, ad, ds, ρ', R, r, e, h⟩ => by
  cases ds with
  | nil => simp [gvs] at e
  | cons d ds =>
    cases r with
    | cons r1 r2 =>
      simp only [gvs] at e
      split at e
      · rename_i ρ1 e1
        refine ⟨_, _, rfl, b, ρ, F, ad, d, ρ1, R, r1, e1, fun σ1 R1 l1 a1 => ?_⟩
        exact ⟨b, ρ1, F, ad, ds, ρ', R1, r2, e, fun σ2 R2 l2 a2 => h σ2 R2 (l2.trans l1) fun i hi => (a2 i hi).trans (a1 i hi)⟩
      · cases e
theorem snd_gtup {es : List Expr} {k : Nat} {gs : Tgs} (hc : X.calm = true) (h : PGs X es (tgNs X.K (gvs C gs) own)) (hn : (assignEach es X.env).length = gs.len) (hst : (assignEach es X.env).findIdx? (·.1) = none) :
    PG X (.Tuple es k pos) (tgN X.K (gv C (.tup gs)) own) := (pg_tup hc h hn hst).imp fun v σ H Q ⟨b, ρ, F, ad, d, ρ', R, r, e, h⟩ => by
  cases r with
  | @tup a xs ds q r =>
    simp only [gv] at e
    exact ⟨a, xs, rfl, Same.seqT R.sub q, by rw [r.length, gvs_len e], b, ρ, F, ad, ds, ρ', R, r, e, h⟩
  | _ => simp [gv] at e
end
/-! ### slots forgotten and restored -/
theorem wipe_in {σ : St} {j : Nat} : ∀ {own : List Nat}, j ∈ own → (wipe σ own)[j]? = if j < σ.length then some none else none
  | [], h => by cases h
  | i :: r, h => by
    unfold wipe
    by_cases z : j = i
    · subst z
      rw [List.getElem?_set]
      rw [if_pos rfl, wipe_length]
    · rw [List.getElem?_set_ne (Ne.symm z)]
      exact wipe_in (by cases h with | head => exact absurd rfl z | tail _ h => exact h)
theorem wipe_eq {σ σ' : St} {own : List Nat} (hl : σ'.length = σ.length) (h : ∀ i, i ∉ own → σ'[i]? = σ[i]?) : wipe σ' own = wipe σ own := by
  apply List.ext_getElem?
  intro j
  by_cases hj : j ∈ own
  · rw [wipe_in hj, wipe_in hj, hl]
  · rw [wipe_out hj, wipe_out hj, h j hj]
theorem wipe_wipe {σ : St} {own : List Nat} : wipe (wipe σ own) own = wipe σ own := wipe_eq (wipe_length _ _) fun i hi => wipe_out hi
theorem wipeE_length (ρ : Env) : ∀ own : List Nat, (wipeE ρ own).length = ρ.length
  | [] => rfl
  | i :: r => by unfold wipeE; rw [List.length_set, wipeE_length ρ r]
theorem wipeE_out {ρ : Env} {j : Nat} : ∀ {own : List Nat}, j ∉ own → (wipeE ρ own)[j]? = ρ[j]?
  | [], _ => rfl
  | i :: r, h => by
    unfold wipeE
    rw [List.getElem?_set_ne fun (z : i = j) => h (z ▸ List.mem_cons_self)]
    exact wipeE_out fun z => h (List.mem_cons_of_mem _ z)
theorem wipeE_some {ρ : Env} {j : Nat} {s : Sl} : ∀ {own : List Nat}, (wipeE ρ own)[j]? = some s → s = .no ∨ (ρ[j]? = some s ∧ j ∉ own)
  | [], h => .inr ⟨h, by simp⟩
  | i :: r, h => by
    unfold wipeE at h
    by_cases z : j = i
    · subst z
      rw [List.getElem?_set, if_pos rfl] at h
      split at h
      · cases h; exact .inl rfl
      · cases h
    · rw [List.getElem?_set_ne (Ne.symm z)] at h
      rcases wipeE_some h with h | ⟨h1, h2⟩
      · exact .inl h
      · exact .inr ⟨h1, fun q => by cases q with | head => exact z rfl | tail _ q => exact h2 q⟩
theorem restore_length (ρ0 ρ : Env) : ∀ own : List Nat, (restore ρ0 ρ own).length = ρ.length
  | [] => rfl
  | i :: r => by unfold restore; rw [List.length_set, restore_length ρ0 ρ r]
theorem restore_some {ρ0 ρ : Env} {j : Nat} {s : Sl} : ∀ {own : List Nat}, (restore ρ0 ρ own)[j]? = some s → (j ∈ own ∧ (s = .no ∨ ρ0[j]? = some s)) ∨ (j ∉ own ∧ ρ[j]? = some s)
  | [], h => .inr ⟨by simp, h⟩
  | i :: r, h => by
    unfold restore at h
    by_cases z : j = i
    · subst z
      rw [List.getElem?_set, if_pos rfl] at h
      split at h
      · cases h
        refine .inl ⟨List.mem_cons_self, ?_⟩
        cases q : ρ0[j]? with
        | none => exact .inl rfl
        | some t => exact .inr rfl
      · cases h
    · rw [List.getElem?_set_ne (Ne.symm z)] at h
      rcases restore_some h with ⟨h1, h2⟩ | ⟨h1, h2⟩
      · exact .inl ⟨List.mem_cons_of_mem _ h1, h2⟩
      · exact .inr ⟨fun q => by cases q with | head => exact z rfl | tail _ q => exact h1 q, h2⟩
theorem noCell_at {ρ : Env} {own : List Nat} (h : noCell ρ own = true) {j : Nat} {s : Sl} (hj : j ∈ own) (e : ρ[j]? = some s) : s.cell = none := by
  unfold noCell at h
  have := List.all_eq_true.mp h j hj
  rw [e] at this
  cases s with
  | no => rfl
  | val => rfl
  | own => cases this
  | bor => cases this
section
variable {K : Frag} {b : Bs} {σ : St} {H H' : Hp} {ρ ρ1 ρf : Env} {F F' : Hp} {ad : Nat → Addr} {own : List Nat}
theorem Rl.wipe (R : Rl K b σ H ρ F ad) (own : List Nat) : Rl K b (wipe σ own) H (wipeE ρ own) F ad :=
  R.sub_env (by rw [wipeE_length, wipe_length]; exact R.len) fun i s e => by
    rcases wipeE_some e with h | ⟨h1, h2⟩
    · exact .inl h
    · exact .inr ⟨h1, fun v q => by rw [wipe_out h2]; exact q⟩
theorem Rl.restore (R1 : Rl K b σ H ρ1 F ad) (R2 : Rl K b (L2.wipe σ own) H' (wipeE ρf own) F' ad) (s : Same F F') (hn : noCell ρ1 own = true) (hl : ρf.length = σ.length) : Rl K b σ H' (restore ρ1 ρf own) F' ad := by
  have out : ∀ (j : Nat) t, (Z.restore ρ1 ρf own)[j]? = some t → (j ∈ own ∧ (t = .no ∨ (ρ1[j]? = some t ∧ t.cell = none))) ∨ (j ∉ own ∧ (wipeE ρf own)[j]? = some t) := fun j t q => by
    rcases restore_some q with ⟨h1, h2⟩ | ⟨h1, h2⟩
    · refine .inl ⟨h1, ?_⟩
      rcases h2 with h2 | h2
      · exact .inl h2
      · exact .inr ⟨h2, noCell_at hn h1 h2⟩
    · exact .inr ⟨h1, by rw [wipeE_out h1]; exact h2⟩
  have cells : ∀ (j : Nat) t d, (Z.restore ρ1 ρf own)[j]? = some t → t.cell = some d → j ∉ own ∧ (wipeE ρf own)[j]? = some t := fun j t d q c => by
    rcases out j t q with ⟨h1, h2 | ⟨h2, h3⟩⟩ | h
    · subst h2; cases c
    · rw [h3] at c; cases c
    · exact h
  refine { sub := R2.sub, f0 := R2.f0, fd := R2.fd, old := R2.old, dom := R2.dom, len := by rw [restore_length]; exact hl, val := fun j x q => ?_, cel := fun j t x q ct => ?_, inj := fun j k t u x y q1 q2 t1 t2 z => ?_, own := fun j x q => ?_, bor := fun j x q => ?_ }
  · rcases out j _ q with ⟨h1, h2 | ⟨h2, h3⟩⟩ | ⟨h1, h2⟩
    · cases h2
    · obtain ⟨v, e1, e2⟩ := R1.val j x h2
      exact ⟨v, e1, e2.mono s⟩
    · obtain ⟨v, e1, e2⟩ := R2.val j x h2
      exact ⟨v, (wipe_some e1).1, e2⟩
  · obtain ⟨h1, h2⟩ := cells j t x q ct
    obtain ⟨q1, q2, q3⟩ := R2.cel j t x h2 ct
    exact ⟨(wipe_some q1).1, q2, q3⟩
  · exact R2.inj j k t u x y (cells j t x q1 t1).2 (cells k u y q2 t2).2 t1 t2 z
  · exact R2.own j x (cells j _ x q rfl).2
  · exact R2.bor j x (cells j _ x q rfl).2
/-- an object that is no slot's, not kept: behind a reading it is so still -/
theorem Rl.tempF (R : Rl K b σ H ρ F ad) {σ' : St} {ρ' : Env} {ad' : Nat → Addr} (R' : Rl K (b.at H ρ F ad) σ' H' ρ' F' ad') {p : Addr} {o : HO} (e : H p = some o) (hF : F p = none) (hc : ∀ (i : Nat) s d, ρ[i]? = some s → s.cell = some d → ad i ≠ p) : F' p = none := by
  cases q : F' p with
  | none => rfl
  | some u =>
    rcases R'.fd p u q with z | z
    · rw [show (b.at H ρ F ad).F0 = F from rfl, hF] at z; cases z
    · unfold Bs.at at z
      dsimp only at z
      rw [if_neg fun ⟨i, s, d, q, c, z⟩ => hc i s d q c z, e] at z
      cases z
theorem Rl.tempC (B : BoOk b) (R : Rl K b σ H ρ F ad) {σ' : St} {ρ' : Env} {ad' : Nat → Addr} (R' : Rl K (b.at H ρ F ad) σ' H' ρ' F' ad') {p : Addr} {o : HO} (e : H p = some o) (h0 : b.H0 p = none) (hc : ∀ (i : Nat) s d, ρ[i]? = some s → s.cell = some d → ad i ≠ p) :
    ∀ (i : Nat) s d, ρ'[i]? = some s → s.cell = some d → ad' i ≠ p := fun i s d q c z => by
  cases s with
  | no => cases c
  | val => cases c
  | own =>
    have := R'.own i _ q
    rw [z] at this
    unfold Bs.at at this
    dsimp only at this
    rw [if_neg fun ⟨i, s, d, q, c, z⟩ => hc i s d q c z, e] at this
    cases this
  | bor =>
    have := R'.bor i _ q
    rw [z] at this
    obtain ⟨o, ho⟩ := B p this
    rw [h0] at ho; cases ho
end
mutual
theorem same_eq : ∀ {d e : D}, D.same d e = true → d = e
  | .non, e, h => by cases e <;> first | rfl | simp [D.same] at h
  | .bl _, e, h => by cases e <;> first | (simp [D.same] at h; done) | (simp [D.same] at h; rw [h])
  | .int _, e, h => by cases e <;> first | (simp [D.same] at h; done) | (simp [D.same] at h; rw [h])
  | .str _, e, h => by cases e <;> first | (simp [D.same] at h; done) | (simp [D.same] at h; rw [h])
  | .lst xs, .lst ys, h => by rw [sames_eq (xs := xs) (ys := ys) (by simpa [D.same] using h)]
  | .tup xs, .tup ys, h => by rw [sames_eq (xs := xs) (ys := ys) (by simpa [D.same] using h)]
  | .lst _, .non, h => by simp [D.same] at h
  | .lst _, .bl _, h => by simp [D.same] at h
  | .lst _, .int _, h => by simp [D.same] at h
  | .lst _, .str _, h => by simp [D.same] at h
  | .lst _, .tup _, h => by simp [D.same] at h
  | .lst _, .dic _, h => by simp [D.same] at h
  | .lst _, .scr _, h => by simp [D.same] at h
  | .tup _, .non, h => by simp [D.same] at h
  | .tup _, .bl _, h => by simp [D.same] at h
  | .tup _, .int _, h => by simp [D.same] at h
  | .tup _, .str _, h => by simp [D.same] at h
  | .tup _, .lst _, h => by simp [D.same] at h
  | .tup _, .dic _, h => by simp [D.same] at h
  | .tup _, .scr _, h => by simp [D.same] at h
  | .dic _, e, h => by cases e <;> simp [D.same] at h
  | .scr _, e, h => by cases e <;> simp [D.same] at h
theorem sames_eq : ∀ {xs ys : List D}, D.sames xs ys = true → xs = ys
  | [], [], _ => rfl
  | [], _ :: _, h => by simp [D.sames] at h
  | _ :: _, [], h => by simp [D.sames] at h
  | x :: xs, y :: ys, h => by
    rw [D.sames, Bool.and_eq_true] at h
    rw [same_eq h.1, sames_eq h.2]
end
/-! ### comprehensions -/
/-- what is walked stands -/
theorem walked {K : Frag} {b b' : Bs} {σ : St} {H1 H : Hp} {ρ1 ρi : Env} {F1 F : Hp} {ad : Nat → Addr} {own : List Nat} (R1 : Rl K b' σ H1 ρ1 F1 ad) (hn : noCell ρ1 own = true) (R : Rl K b (wipe σ own) H (wipeE ρi own) F ad) (s : Same F1 F) :
    ∀ {rs : List RV} {vs : List V} {us : List D}, Hds K σ F1 vs rs → rds ρ1 rs = some us → (∀ (j : Nat) t d, RV.at j ∈ rs → ρ1[j]? = some t → t.cell = some d → ρi[j]? = some t) → Lks K F H vs us
  | [], _, us, .nil, e, _ => by cases e; trivial
  | r :: rs, v :: _, us, .cons x xs, e, st => by
    unfold rds at e
    cases q : rd ρ1 r with
    | none => rw [q] at e; cases e
    | some d =>
      rw [q] at e
      cases q2 : rds ρ1 rs with
      | none => rw [q2] at e; cases e
      | some dr =>
        rw [q2] at e
        cases e
        refine ⟨?_, walked R1 hn R s xs q2 fun j t d h => st j t d (List.mem_cons_of_mem _ h)⟩
        cases r with
        | val d' => cases q; exact Lk.of R.sub (Rp.mono s x)
        | new d' => cases q; exact Lk.of R.sub (Rp.mono s x)
        | «at» j =>
          have x' : σ[j]? = some (some v) := x
          unfold rd at q
          dsimp only at q
          have own' : ∀ (t : Sl) (d : D), ρ1[j]? = some t → t.cell = some d → Lk K F H v d := fun t d e1 c => by
            have ej := st j t d List.mem_cons_self e1 c
            have nj : j ∉ own := fun z => by rw [noCell_at hn z e1] at c; cases c
            obtain ⟨q1, _, q3⟩ := R.cel j t d (by rw [wipeE_out nj]; exact ej) c
            rw [wipe_out nj, x'] at q1
            cases q1
            exact Lk.ob q3
          cases e1 : ρ1[j]? with
          | none => rw [e1] at q; cases q
          | some t =>
            rw [e1] at q
            cases t with
            | no => cases q
            | val d' =>
              cases q
              obtain ⟨w, z1, z2⟩ := R1.val j d e1
              rw [x'] at z1
              cases z1
              exact Lk.of R.sub (z2.mono s)
            | own d' => cases q; exact own' _ _ e1 rfl
            | bor d' => cases q; exact own' _ _ e1 rfl
theorem ck_stands {ρ1 ρi : Env} {rs : List RV} (h : ckOf ρ1 rs ρi = true) (j : Nat) (t : Sl) (d : D) (hj : RV.at j ∈ rs) (e : ρ1[j]? = some t) (c : t.cell = some d) : ρi[j]? = some t := by
  unfold ckOf at h
  have := List.all_eq_true.mp h _ hj
  dsimp only at this
  rw [e] at this
  cases t with
  | no => cases c
  | val => cases c
  | own d' =>
    cases q : ρi[j]? with
    | none => rw [q] at this; cases this
    | some u =>
      rw [q] at this
      cases u with
      | own d2 => rw [same_eq this]
      | no => cases this
      | val => cases this
      | bor => cases this
  | bor d' =>
    cases q : ρi[j]? with
    | none => rw [q] at this; cases this
    | some u =>
      rw [q] at this
      cases u with
      | bor d2 => rw [same_eq this]
      | no => cases this
      | val => cases this
      | own => cases this
/-- what stands between two turns -/
structure CInv (K : Frag) (C : Cf) (b : Bs) (σ : St) (own : List Nat) (ρ1 : Env) (rs : List RV) (F1 : Hp) (ad : Nat → Addr) (Dd : Addr) (g : D → Env → Option Env) (t : Env → Option (Bool × Env)) (e : Env → Option (RV × Env)) (ds accF : List D) (ρF : Env) (i : Nat) (H : Hp) (ρi : Env) (Fi : Hp) (acc : List D) (accV : List V) : Prop where
  run : compF (ckOf ρ1 rs) own g t e (ds.drop i) acc ρi = some (accF, ρF)
  rl : Rl K b (wipe σ own) H (wipeE ρi own) Fi ad
  same : Same F1 Fi
  at_ : H Dd = some (.lst accV)
  rps : Rps K Fi accV acc
  few : acc.length ≤ i
  hF : Fi Dd = none
  nc : ∀ (j : Nat) s d, (wipeE ρi own)[j]? = some s → s.cell = some d → ad j ≠ Dd
  st : ∀ (j : Nat) t d, RV.at j ∈ rs → ρ1[j]? = some t → t.cell = some d → ρi[j]? = some t
  len : ρi.length = σ.length
theorem lc_fin {K : Frag} {C : Cf} {wi : TI} {gt : D → Env → Option Env} {tt : Env → Option (Bool × Env)} {te : Env → Option (RV × Env)} {it : Env → Option (List D × List RV × Env)} {own : List Nat} {σ : St} {H : Hp} {Q : VK}
    {b : Bs} {ρ : Env} {F : Hp} {ad : Nat → Addr} {ds : List D} {rs : List RV} {us : List D} {ρ1 ρF : Env} {accF : List D} (B : BoOk b) (R : Rl K b σ H ρ F ad) (e1 : it ρ = some (ds, rs, ρ1)) (eu : rds ρ1 rs = some us) (hn : noCell ρ1 own = true)
    (e2 : compF (ckOf ρ1 rs) own gt tt te ds [] ρ1 = some (accF, ρF)) (hz : ds.length ≤ LL)
    (h : ∀ v H' F', Rl K b σ H' (restore ρ1 ρF own) F' ad → Same F F' → RvR K b σ H' (restore ρ1 ρF own) F' ad v (.new (.lst accF)) → Q v H') :
    tLc (tDi K it) (tgN K gt own) (tDt K tt) (tD K te) own σ H Q := by
  refine ⟨b, ρ, F, ad, ds, rs, us, ρ1, B, R, e1, eu, fun J vs H1 F1 R1 s1 hv wk Dd hD => ?_⟩
  have h0 := R1.dom Dd hD
  refine ⟨fun i m H => m = ds.length - i ∧ i ≤ ds.length ∧ ∃ ρi Fi acc accV, CInv K C b σ own ρ1 rs F1 ad Dd gt tt te ds accF ρF i H ρi Fi acc accV, ⟨ds.length, by simp, Nat.zero_le _, ρ1, F1, [], [], ?_⟩, ?_⟩
  · exact ⟨e2, (R1.alloc hD).wipe own, Same.refl _, upd_same, .nil, Nat.le_refl _, R1.free hD, fun j s d q c => by
      rcases wipeE_some q with z | ⟨z, _⟩
      · subst z; cases c
      · exact R1.celN hD j s d z c, fun j t d _ q _ => q, R1.len⟩
  · rintro i m H2 ⟨rfl, hi, ρi, Fi, acc, accV, I⟩
    have lk : Lks K Fi H2 vs us := walked R1 hn I.rl I.same hv eu I.st
    by_cases hlt : i < ds.length
    · have hd : ds[i]? = some ds[i] := List.getElem?_eq_getElem hlt
      have hdrop : ds.drop i = ds[i] :: ds.drop (i + 1) := List.drop_eq_getElem_cons hlt
      have run := I.run
      rw [hdrop] at run
      unfold compF at run
      split at run
      · cases run
      · rename_i ρg eg
        refine .inr ⟨wk.go i Fi H2 hlt I.same I.rl.sub lk, fun H' => ∃ ρi Fi acc accV, CInv K C b σ own ρ1 rs F1 ad Dd gt tt te ds accF ρF (i + 1) H' ρi Fi acc accV, fun H' ⟨ρi, Fi, acc, accV, I'⟩ => ⟨ds.length - (i + 1), by omega, rfl, hlt, ρi, Fi, acc, accV, I'⟩, fun x H3 hy => ?_⟩
        -- the item: as it stands, or a new tuple
        obtain ⟨F3, R3, s3, x3, e3, hF3, c3⟩ : ∃ F3, Rl K b (wipe σ own) H3 (wipeE ρi own) F3 ad ∧ Same Fi F3 ∧ Rp K F3 x ds[i] ∧ H3 Dd = some (.lst accV) ∧ F3 Dd = none ∧ (∀ (j : Nat) s d, (wipeE ρi own)[j]? = some s → s.cell = some d → ad j ≠ Dd) := by
          rcases wk.yld i Fi H2 x H3 _ hd I.same I.rl.sub lk hy with ⟨rfl, rx⟩ | ⟨p, xs, es, rfl, hp, rfl, ed, rx⟩
          · exact ⟨Fi, I.rl, Same.refl _, rx, I.at_, I.hF, I.nc⟩
          · obtain ⟨R', s'⟩ := (I.rl.alloc (o := .tup xs) hp).keepNew upd_same (I.rl.free hp) (I.rl.dom p hp) (I.rl.celN hp)
            have ne : Dd ≠ p := ne_of_none I.at_ hp
            refine ⟨_, R', s', ?_, by rw [upd_ne ne]; exact I.at_, by rw [upd_ne ne]; exact I.hF, I.nc⟩
            rw [ed]
            exact .tup (.of upd_same) (rx.mono s')
        -- the target
        have R3' := R3.rebase
        refine ⟨_, _, F3, ad, ds[i], ρg, R3', x3, eg, fun σ4 R4 l4 a4 => ⟨?_, ?_⟩⟩
        · rw [wipe_length] at l4
          rw [← wipe_wipe (σ := σ)]
          exact wipe_eq (by rw [l4, wipe_length]) a4
        have w4 : wipe σ4 own = wipe σ own := by
          rw [← wipe_wipe (σ := σ)]
          exact wipe_eq l4 a4
        have B3 := B.at R3
        split at run
        · cases run
        · rename_i ρt et
          split at run
          · rename_i hck
            refine ⟨_, ρg, F3, ad, false, ρt, B3, R4, et, fun H5 F5 R5 s5 => ?_⟩
            refine iteF ?_
            have R5' := R3.unbase R5
            refine ⟨ρt, F5, acc, accV, run, ?_, I.same.trans (s3.trans s5), R3.temp R5 e3 h0 c3 B, I.rps.mono (s3.trans s5), Nat.le_succ_of_le I.few, R3.tempF R5 e3 hF3 c3, ?_, ck_stands hck, ?_⟩
            · have := R5'.wipe own
              rw [w4] at this
              exact this
            · exact fun j s d q c => by
                rcases wipeE_some q with z | ⟨z, _⟩
                · subst z; cases c
                · exact Rl.tempC B R3 R5 e3 h0 c3 j s d z c
            · rw [R5.len, l4, wipe_length]
          · cases run
        · rename_i ρt et
          split at run
          · cases run
          · rename_i rv ρe ee
            split at run
            · cases run
            · rename_i y ρy ey
              split at run
              · rename_i hck
                refine ⟨_, ρg, F3, ad, true, ρt, B3, R4, et, fun H5 F5 R5 s5 => ?_⟩
                refine iteT ?_
                refine .now B3 R5 ee fun w H6 F6 R6 s6 x6 => ?_
                obtain ⟨F7, R7, s7, d7⟩ := R6.hold x6
                obtain ⟨F8, R8, s8, p8⟩ := R7.stl d7 ey
                have e8 : H6 Dd = some (.lst accV) := R3.temp R8 e3 h0 c3 B
                have hF8 := R3.tempF R8 e3 hF3 c3
                have c8 := Rl.tempC B R3 R8 e3 h0 c3
                have R8' := R3.unbase R8
                have ss : Same Fi F8 := s3.trans (s5.trans (s6.trans (s7.trans s8)))
                refine ⟨accV, e8, ?_, ρy, F8, acc ++ [y], accV ++ [w], run, ?_, I.same.trans ss, upd_same, (I.rps.mono ss).append (.one p8), ?_, hF8, ?_, ck_stands hck, ?_⟩
                · have := I.rps.length
                  have := I.few
                  have hLL : LL < sizeLine := LL_lt
                  omega
                · have := (R8'.over (o := .lst (accV ++ [w])) hF8 h0 c8).wipe own
                  rw [w4] at this
                  exact this
                · rw [List.length_append]
                  have := I.few
                  show acc.length + 1 ≤ i + 1
                  omega
                · exact fun j s d q c => by
                    rcases wipeE_some q with z | ⟨z, _⟩
                    · subst z; cases c
                    · exact c8 j s d z c
                · rw [R8.len, l4, wipe_length]
              · cases run
    · have hi' : i = ds.length := by omega
      subst hi'
      have run := I.run
      rw [List.drop_length] at run
      unfold compF at run
      cases run
      refine .inl ⟨wk.stop Fi H2 I.same I.rl.sub lk, ?_⟩
      have RF := Rl.restore R1 I.rl I.same hn I.len
      refine h (.ref Dd) H2 Fi RF (s1.trans I.same) ⟨Dd, rfl, I.hF, ⟨accV, I.at_, I.rps⟩, fun j s d q c => ?_, h0⟩
      rcases restore_some q with ⟨h1, h2⟩ | ⟨h1, h2⟩
      · rcases h2 with h2 | h2
        · subst h2; cases c
        · rw [noCell_at hn h1 h2] at c; cases c
      · exact I.nc j s d (by rw [wipeE_out h1]; exact h2) c
end Z

set_option linter.all false
set_option autoImplicit false
set_option Elab.async false
set_option maxRecDepth 100000
/-! Z, part 11b: dict comprehensions whose keys are tuples. -/
namespace Z
open PySem PySem.Spec PyProof.Rows L2
section
variable {X : Cx}
/-- how d[k] = v of a comprehension goes -/
def PDs (X : Cx) (rS : Addr → V → V → Hp → (Hp → Prop) → Prop) : Prop := ∀ (pins : List (Addr × Obj)) (s : Shared) (σ : St) (H : Hp) (a : Addr) (y z : V) (u r : Value) (Q : Hp → Prop) (Ex : Value → Shared → Prop), Inv X pins σ H s → RelV y u → RelV z r → rS a y z H Q →
  wpAny (model X.prog X.w) X.A (dictSet a u r) (fun _ s' => ∃ H', Inv X pins σ H' s' ∧ Q H') Ex s
def rDs (K : Frag) : Addr → V → V → Hp → (Hp → Prop) → Prop := fun a y z H Q => ∃ F b kvs ds q k, y = .ref b ∧ DNg K F H a b kvs ds q k ∧ kvs.length < sizeLine ∧ ∀ od, Q (upd H a (dN a od (putE kvs k b z)))
theorem ds_N (hu : X.A.units + 9 < cLine) : PDs X (rDs X.K) := by
  intro pins s σ H a y z u r Q Ex I ry rz h
  obtain ⟨F, b, kvs, ds, q, k, rfl, g, hlt, hq⟩ := h
  obtain ⟨us, hn, hd, hk, hl, hs, _, _⟩ := dn_look I g
  obtain rfl := ry
  have e1 : us.length = kvs.length := by have := congrArg List.length hn.keys; simpa using this
  refine wpAny_dictSet_heap (knd := nestedKind X.prog X.w) (hsz := by rw [e1]; exact hl) (show X.A.units + 8 < cLine by omega) hk hd fun h' dd' hs' => ?_
  obtain ⟨od, I2⟩ := dN_write (t' := s.toks + (nestedKind X.prog X.w).draws k) I (atN_mut g.at') dd' hs' (hn.put rz) (by have := putE_len kvs k b z; omega) hs
  exact ⟨_, I2, hq od⟩
def tDcS (rS : Addr → V → V → Hp → (Hp → Prop) → Prop) (wi : TI) (g : TG) (tt : TT) (tk tv : TE) (vs : List Nat) : TE := fun σ H Q => wi σ H fun J H1 => ∀ a, H1 a = none → ∃ W : Nat → Nat → Hp → Prop, (∃ m, W 0 m (upd H1 a (.dK []))) ∧ ∀ i m H, W i m H →
  (J.stop i H ∧ Q (.ref a) H) ∨ (J.go i H ∧ ∃ Nx : Hp → Prop, (∀ H', Nx H' → ∃ m', m' < m ∧ W (i + 1) m' H') ∧ ∀ x H', J.yld i H x H' → g x (wipe σ vs) H' fun σ2 H2 => wipe σ2 vs = wipe σ vs ∧ tt σ2 H2 fun b H3 =>
    if b = true then tk σ2 H3 fun y H4 => tv σ2 H4 fun z H5 => rS a y z H5 Nx else Nx H3)
/-- what such a comprehension is made of, in its block -/
structure DcP (Y : Cx) (tg kx vx : Expr) (ifs : List Expr) (rS : Addr → V → V → Hp → (Hp → Prop) → Prop) (g : TG) (tt : TT) (tk tv : TE) : Prop where
  put : PDs Y rS
  tgt : PG Y tg g
  tst : PTs Y ifs tt
  key : PE Y kx tk
  val : PE Y vx tv
section
variable {rS : Addr → V → V → Hp → (Hp → Prop) → Prop} {kx vx tg : Expr} {ifs : List Expr} {g : TG} {tt : TT} {tk tv : TE} {vs : List Nat}
/-- the iterators, apart from all, at any turn -/
def Apart (Y : Cx) (fp : List Addr) : Prop := ∀ (τ : St) (G : Hp) (z : Shared), Inv Y [] τ G z → (∀ b ∈ fp, G b = none) → ∀ b ∈ fp, FpOk Y [] G b
/-- between two turns: i turns are done -/
structure Stand (Y : Cx) (fp : List Addr) (tn : Nat → Heap → Prop) (W : Nat → Nat → Hp → Prop) (τ : St) (n : Nat) (z : Shared) (i : Nat) (G : Hp) : Prop where
  inv : Inv Y [] τ G z
  at_ : tn i z.heap
  apart : ∀ b ∈ fp, G b = none
  w : W i n G
theorem Stand.turn {Y : Cx} (calm : Y.calm = true) (silent : Y.xe = fun _ _ => False) (P : DcP Y tg kx vx ifs rS g tt tk tv) {J : L2.It} {fp : List Addr} {it a : Addr} {tn : Nat → Heap → Prop} (T : Turn Y.prog Y.w Y.K tg J fp it tn) (ap : Apart Y fp) {W : Nat → Nat → Hp → Prop} {τ : St} {n i : Nat} {z : Shared} {G : Hp}
    (S : Stand Y fp tn W (wipe τ vs) n z i G) (go : J.go i G) {Nx : Hp → Prop} (less : ∀ G', Nx G' → ∃ m', m' < n ∧ W (i + 1) m' G')
    (step : ∀ x G', J.yld i G x G' → g x (wipe τ vs) G' fun τ2 G2 => wipe τ2 vs = wipe τ vs ∧ tt τ2 G2 fun b G3 => if b = true then tk τ2 G3 fun y G4 => tv τ2 G4 fun v G5 => rS a y v G5 Nx else Nx G3)
    {D0 : Shared → Prop} {Ex : Value → Shared → Prop} :
    wpAny (model Y.prog Y.w) Y.A (pyNext (.ref it)) (fun r s₁ => match r with
      | none => D0 s₁
      | some v => wpAny (model Y.prog Y.w) Y.A (letOwnedTupleGo tg (.ref it) v) (fun _ s₂ => wpAny (model Y.prog Y.w) Y.A (assign tg Y.env v) (fun _ s₃ =>
          wpAny (model Y.prog Y.w) Y.A (forIn ifs true fun c r => if r = true then do let ok ← isTrue c Y.env (eval c Y.env); pure (ForInStep.yield ok) else pure (ForInStep.yield r)) (fun ok s₄ =>
            if ok = true then wpAny (model Y.prog Y.w) Y.A (eval kx Y.env) (fun kv s₅ => wpAny (model Y.prog Y.w) Y.A (eval vx Y.env) (fun vv s₆ =>
              wpAny (model Y.prog Y.w) Y.A (dictSet a kv vv) (fun _ s₇ => ∃ m, m < n ∧ ∃ i' G', Stand Y fp tn W (wipe τ vs) m s₇ i' G') Ex s₆) Ex s₅) Ex s₄
            else ∃ m, m < n ∧ ∃ i' G', Stand Y fp tn W (wipe τ vs) m s₄ i' G') Ex s₃) Ex s₂) Ex s₁) Ex z := by
  have nxt := T.item Y rfl rfl rfl calm i [] z _ G (fun _ _ => False) S.inv (ap _ _ _ S.inv S.apart) S.at_ go
  refine thnF nxt fun r z1 hr => ?_
  obtain ⟨item, rfl, hz1⟩ := hr
  refine thnF hz1 fun _ z2 hz2 => ?_
  obtain ⟨x, G2, K2, rel2, yl, at2, none2⟩ := hz2
  have K2p := K2.pinned (ap _ _ _ K2 none2) (T.obj _ _ at2)
  -- the turn is over: all is as before it but what Nx tells
  have over : ∀ {z' : Shared} {G' : Hp} {τ' : St}, wipe τ' vs = wipe τ vs → Inv Y ([] ++ pinsAt fp z2.heap) τ' G' z' → Nx G' → ∃ m, m < n ∧ ∃ i' H', Stand Y fp tn W (wipe τ vs) m z' i' H' := fun {z' G' τ'} hw K' nx => by
    obtain ⟨m, lt, w⟩ := less G' nx
    have pinned : ∀ b ∈ fp, ∀ o, z2.heap.get? b = some o → z'.heap.get? b = some o ∧ G' b = none := fun b hb o eo => by
      have pp := K'.pin (b, o) (List.mem_append_right _ (List.mem_append_right _ (mem_pinsAt hb eo)))
      exact ⟨pp.1, pp.2.1⟩
    have back : Inv Y [] (wipe τ vs) G' z' := (K'.unpinned (pins := [])).weak (by rw [← hw, wipe_length]) fun j v ej => by
      rw [← hw] at ej
      exact (wipe_some ej).1
    exact ⟨m, lt, i + 1, G', back, T.keep _ _ _ at2 fun b hb o eo => (pinned b hb o eo).1, fun b hb => by
      obtain ⟨o, eo, _⟩ := T.obj _ _ at2 b hb
      exact (pinned b hb o eo).2, w⟩
  have tgtR := P.tgt.run _ z2 _ G2 x item _ K2p rel2 (step x G2 yl)
  rw [silent] at tgtR
  refine thnF tgtR fun _ z3 hz3 => ?_
  obtain ⟨τ3, G3, K3, hw, q3⟩ := hz3
  have tstR := P.tst.run _ z3 τ3 G3 _ K3 q3
  rw [silent] at tstR
  refine thnF tstR fun b z4 hz4 => ?_
  obtain ⟨G4, K4, q4⟩ := hz4
  cases b with
  | false => exact over hw K4 q4
  | true =>
    have keyR := P.key.run _ z4 τ3 G4 _ K4 q4
    rw [silent] at keyR
    refine thnF keyR fun kv z5 hz5 => ?_
    obtain ⟨y, G5, K5, rel5, q5⟩ := hz5
    have valR := P.val.run _ z5 τ3 G5 _ K5 q5
    rw [silent] at valR
    refine thnF valR fun vv z6 hz6 => ?_
    obtain ⟨v, G6, K6, rel6, q6⟩ := hz6
    exact thnF (P.put _ z6 τ3 G6 a y v kv vv Nx (fun _ _ => False) K6 rel5 rel6 q6) fun _ z7 hz7 => by
      obtain ⟨G7, K7, nx⟩ := hz7
      exact over hw K7 nx
end
theorem dcS_core {rS : Addr → V → V → Hp → (Hp → Prop) → Prop} {pins : List (Addr × Obj)} {s : Shared} {σ : St} {H : Hp} {Q : VK} {kx vx tg iter : Expr} {ifs : List Expr} {scope : Scope} {own : List (Str × Nat)} {pos pos' : Pos} {wi : TI} {g : TG} {tt : TT} {tk tv : TE} {use : Option (Value → Sem Unit)} {Qf : Value → Shared → Prop}
    (calm : X.calm = true) (nodup : X.N.Nodup) (I : Inv X pins σ H s) (hi : PI X tg iter wi) (bo : BlkOk X.N X.env.scope scope own)
    (P : ∀ (z : Shared) (G : Hp) (c : Addr) (cl : List (Str × Addr)) (fp : List Addr), DcP (X.blk z G scope (compEnvC scope cl c X.env) fp) tg kx vx ifs rS g tt tk tv) (plain : ∀ x, foldedSetIterable iter X.env x = pure x)
    (h : tDcS rS wi g tt tk tv (own.map (·.2)) σ H Q)
    (fin : ∀ a c z m G, Inv X pins σ G z → Q (.ref a) G → z.heap.Ns c m → FpOk X pins G c → compPost (model X.prog X.w) X.A X.xe use Qf (.ref a) c (.ok .next) z) :
    wpAny (model X.prog X.w) X.A
      (comprehension (.DictComp kx vx [⟨tg, iter, ifs, 0⟩] scope pos) scope X.env pos' newDict false (eval iter X.env) use) Qf X.xe s := by
  have cells : ∀ y ∈ scope.names, y.2 = .free → ∃ c, X.env.cells.lookup y.1 = some c := fun y hy e => (bo.free y hy e).elim (fun k => I.ok.has _ (.inl k)) fun k => I.ok.has _ (.inr k)
  have first := hi.run pins s σ H _ I h
  refine wpAny_comprehension_free (use := use) rfl plain (closure_ok cells) bo.kind (fun y hy e => by rw [bo.uniq y hy, e]) (thn first fun xv z1 hx => thn hx fun itv z2 hz2 => ?_)
  obtain ⟨it, fp, tn, J, G2, e, K2, T, at2, fp2, q⟩ := hz2
  subst e
  refine wpAny_newObj_type (newEnv_comp (?_))
  -- the new dict
  generalize ea : z2.heap.objs.size = a
  have none2 : G2 a = none := K2.hok.fresh (Nat.le_of_eq ea)
  obtain ⟨W, ⟨m0, w0⟩, turn⟩ := q a none2
  generalize ez3 : ({ z2 with heap := z2.heap.push { cls := .type "dict", data := .dict #[] } } : Shared) = z3
  have heap3 : z3.heap = z2.heap.push { cls := .type "dict", data := .dict #[] } := (congrArg Shared.heap ez3).symm
  have K3 : Inv X pins σ (upd G2 a (.dK [])) z3 := by
    subst ea ez3
    exact K2.laid (t' := z2.toks) (fun b o eo => Heap.get?_push_of_some _ eo) (Nat.le_refl _) (dk_empty z2.heap K2.big)
  have lt2 : ∀ b ∈ fp, b < z2.heap.objs.size := fun b hb => by
    obtain ⟨o, eo, _⟩ := T.obj _ _ at2 b hb
    exact Heap.lt_size eo
  have fp3 : ∀ b ∈ fp, FpOk X pins (upd G2 a (.dK [])) b ∧ b < z3.heap.objs.size := fun b hb => by
    have ne : b ≠ a := by rw [← ea]; exact Nat.ne_of_lt (lt2 b hb)
    refine ⟨⟨?_, (fp2 b hb).2⟩, ?_⟩
    · rw [upd_ne ne]; exact (fp2 b hb).1
    · rw [heap3, Heap.size_push]; exact Nat.lt_succ_of_lt (lt2 b hb)
  have at3 : tn 0 z3.heap := T.keep _ _ _ at2 fun b _ o eo => by
    rw [heap3]
    exact Heap.get?_push_of_some _ eo
  -- its block
  have K4 := block_start K3 bo nodup fp3
  have P4 := P z3 (upd G2 a (.dK [])) z3.heap.objs.size (cellsFrom (z3.heap.objs.size + 1) scope.names (cloFrom X.env.cells scope.names [])) fp
  show codeAny _ _ (.compStart (.DictComp kx vx [⟨tg, iter, ifs, 0⟩] scope pos) 0 (.ref it) (.ref a) (compEnvC scope (cellsFrom (z3.heap.objs.size + 1) scope.names (cloFrom X.env.cells scope.names [])) z3.heap.objs.size X.env)) (compPost (model X.prog X.w) X.A X.xe use Qf (.ref a) z3.heap.objs.size) { z3 with heap := pushCells (z3.heap.push { cls := .type "dict", data := .dict #[] }) scope.names }
  generalize ece : compEnvC scope (cellsFrom (z3.heap.objs.size + 1) scope.names (cloFrom X.env.cells scope.names [])) z3.heap.objs.size X.env = ce at K4 P4 ⊢
  have loc : ce.locals = z3.heap.objs.size := by rw [← ece]; rfl
  generalize eG3 : upd G2 a (.dK []) = G3 at K3 K4 P4 w0 fp3
  generalize ez4 : ({ z3 with heap := pushCells (z3.heap.push { cls := .type "dict", data := .dict #[] }) scope.names } : Shared) = z4 at K4 ⊢
  have at4 : tn 0 z4.heap := by
    rw [← ez4]
    exact T.keep _ _ _ at3 fun b _ o eo => pushCells_keeps _ _ _ _ (Heap.get?_push_of_some _ eo)
  have ap : Apart (X.blk z3 G3 scope ce fp) fp := fun τ G z K none b hb =>
    ⟨none b hb, (K.ok.exf b hb).1, K.ok.exfs b hb, .inl hb, fun x c ec => (K.ok.exf b hb).2 x c ec, fun p hp => by simp at hp⟩
  have whole : codeAny (model X.prog X.w) X.A (.compLoop (.DictComp kx vx [⟨tg, iter, ifs, 0⟩] scope pos) 0 (.ref it) (.ref a) ce) (compPost (model X.prog X.w) X.A X.xe use Qf (.ref a) z3.heap.objs.size) z4 := by
    refine compLoop_anyD (fun n z => ∃ i G, Stand (X.blk z3 G3 scope ce fp) fp tn W (wipe σ (own.map (·.2))) n z i G) (fun n z ⟨i, G, S⟩ => ?_) m0 ⟨0, G3, K4, at4, fun b hb => (fp3 b hb).1.1, w0⟩
    rcases turn i n G S.w with ⟨stop, last⟩ | ⟨go, Nx, less, step⟩
    · have ended := T.done (X.blk z3 G3 scope ce fp) rfl rfl rfl calm i [] z _ G (fun _ _ => False) S.inv (ap _ _ _ S.inv S.apart) S.at_ stop
      refine thnF ended fun r z5 ⟨er, K5⟩ => ?_
      subst er
      have free : G z3.heap.objs.size = none := by
        have fr : G ce.locals = none := K5.free
        rwa [loc] at fr
      have ns := K5.loc
      obtain ⟨m, hm, _⟩ := ns
      have hm : z5.heap.Ns ce.locals m := hm
      rw [loc] at hm
      exact fin a z3.heap.objs.size z5 m G (K3.call' (ch := fp) K5.os K5.base K5.hok K5.bare fun b hb => let z := (fp3 b hb).1.2; ⟨z.2.2.1, z.1, z.2.2.2.1, z.2.2.2.2⟩) last hm (K3.fpOk (Nat.le_refl _) free)
    · exact Stand.turn (Y := X.blk z3 G3 scope ce fp) calm rfl P4 T ap S go less step
  exact codeAny_compStart_dict whole (T.self X.A 0 _ _ _ at4 whole)
section
variable {rS : Addr → V → V → Hp → (Hp → Prop) → Prop} {kx vx tg iter : Expr} {ifs : List Expr} {scope : Scope} {own : List (Str × Nat)} {pos : Pos} {wi : TI} {g : TG} {tt : TT} {tk tv : TE}
theorem pe_dcS (calm : X.calm = true) (nodup : X.N.Nodup) (hi : PI X tg iter wi) (bo : BlkOk X.N X.env.scope scope own)
    (P : ∀ (z : Shared) (G : Hp) (c : Addr) (cl : List (Str × Addr)) (fp : List Addr), DcP (X.blk z G scope (compEnvC scope cl c X.env) fp) tg kx vx ifs rS g tt tk tv) (plain : ∀ x, foldedSetIterable iter X.env x = pure x) :
    PE X (.DictComp kx vx [⟨tg, iter, ifs, 0⟩] scope pos) (tDcS rS wi g tt tk tv (own.map (·.2))) := ⟨fun pins s σ H Q I h => by
  rw [arm_eval_DictComp]
  exact dcS_core calm nodup I hi bo P plain h fun a c z m G K q ns ⟨f0, f1, f2, f3, f4, f5⟩ => ⟨m, ns, fun h' sb =>
    ⟨.ref a, G, K.turned (t' := z.toks) (fun b o hb eo => (sb.2 b hb).trans eo) f0 f1 f3 f4 f5, rfl, q⟩⟩⟩
theorem ps_setDcS {i : Nat} {y : Str} {py spos : Pos} (calm : X.calm = true) (nodup : X.N.Nodup) (hy : X.N[i]? = some y) (local_ : X.env.scope.names.lookup y = some .local)
    (hsw : swapsWith (.DictComp kx vx [⟨tg, iter, ifs, 0⟩] scope pos) (some (.Name y py)) spos.line X.env = pure true) (hi : PI X tg iter wi) (bo : BlkOk X.N X.env.scope scope own)
    (P : ∀ (z : Shared) (G : Hp) (c : Addr) (cl : List (Str × Addr)) (fp : List Addr), DcP (X.blk z G scope (compEnvC scope cl c X.env) fp) tg kx vx ifs rS g tt tk tv) (plain : ∀ x, foldedSetIterable iter X.env x = pure x) :
    PS X (.Assign [.Name y py] (.DictComp kx vx [⟨tg, iter, ifs, 0⟩] scope pos) spos) (tAsg (tDcS rS wi g tt tk tv (own.map (·.2))) (gName i)) := ⟨fun pins s σ H E I h => by
  have h : tDcS rS wi g tt tk tv (own.map (·.2)) σ H (fun x H1 => gName i x σ H1 E.nx) := h
  have run := dcS_core (use := some (assign (.Name y py) X.env)) (pos := pos) (pos' := firstIterPos [⟨tg, iter, ifs, 0⟩] pos) (Qf := fun _ z => SP X pins E .next z) calm nodup I hi bo P plain h fun a c z m G K q ns ⟨f0, f1, f2, f3, f4, f5⟩ => by
    show wpAny (model X.prog X.w) X.A (assign (.Name y py) X.env (.ref a)) (fun _ z' => ∃ m, z'.heap.Ns c m ∧ _) _ z
    refine wpAny_assign_Name (store_ok2 (v := V.ref a) K nodup hy (.inl local_) rfl (fun z2 K2 ⟨b, sb, hb⟩ => ?_) (.inr local_))
    have ne : c ≠ b := hb.elim (fun e => e ▸ f1) fun e e2 => f4 y b e e2.symm
    exact ⟨m, ns.sameBut sb ne, fun h3 sb3 => ⟨_, G, K2.turned (t' := z2.toks) (fun d o hd eo => (sb3.2 d hd).trans eo) f0 f1 f3 f4 f5, q⟩⟩
  rw [exec_Assign_Name_used _ _ _ _ (hsw)]
  refine wpAny_bind (wpAny_standAt (wpAny_bind (?_)))
  show wpAny _ X.A (do let _ ← comprehension (.DictComp kx vx [⟨tg, iter, ifs, 0⟩] scope pos) scope X.env (firstIterPos [⟨tg, iter, ifs, 0⟩] pos) newDict false (eval iter X.env) (some (assign (.Name y py) X.env))) _ _ s
  exact wpAny_bind (thn run fun _ z hq => wpAny_pure (wpAny_pure hq))⟩
theorem swD_true {py : Pos} {y : Str} {l : Nat} {env : PySem.Env} {gs : List Comprehension} (hk : env.scope.kind = .function) (hy : env.scope.names.lookup y = some .local) (hl : (py.line == pos.line) = true)
    (ha : (scope.names.any fun (n, k) => n == y && (k == .local || k == .cell)) = false) : swapsWith (.DictComp kx vx gs scope pos) (some (.Name y py)) l env = pure true := by
  have ly : env.kindOf y = some .local := hy
  have hb : env.blockKind = .function := by unfold PySem.Env.blockKind; rw [hk]; rfl
  unfold swapsWith
  simp only [hb, ly, ha, Expr.pos, hl]
  rfl
end
end
/-! ### its evaluator -/
def AtO (o : HO) (a : Addr) (kvs : List NE) : Prop := (∃ od, o = dN a od kvs) ∨ (o = .dK [] ∧ kvs = [])
theorem AtO.at {K : Frag} {F H : Hp} {o : HO} {a : Addr} {kvs : List NE} {ds : List (D × D)} (h : AtO o a kvs) (e : H a = some o) (r : NRps K F kvs ds) : AtN K F H a kvs ds := by
  refine ⟨r, ?_⟩
  rcases h with ⟨od, rfl⟩ | ⟨rfl, z⟩
  · exact .inl ⟨od, e⟩
  · exact .inr ⟨e, z⟩
theorem NRps.mono' {K : Frag} {F G : Hp} (s : Same F G) {kvs : List NE} {ds : List (D × D)} (r : NRps K F kvs ds) : NRps K G kvs ds := r.mono s
theorem rp_imm {K : Frag} {F G : Hp} {v : V} {d : D} (h : d.imm = true) (r : Rp K F v d) (s : Same F G) : Rp K G v d := r.mono s
theorem dput_len (kvs : List (D × D)) (k v : D) : (dput kvs k v).length ≤ kvs.length + 1 := by
  unfold dput
  split
  · rw [List.length_map]; exact Nat.le_succ _
  · rw [List.length_append]; exact Nat.le_refl _
structure DInv (K : Frag) (C : Cf) (b : Bs) (σ : St) (own : List Nat) (ρ1 : Env) (rs : List RV) (F1 : Hp) (ad : Nat → Addr) (Dd : Addr) (g : D → Env → Option Env) (t : Env → Option (Bool × Env)) (ek ev' : Env → Option (RV × Env)) (ds : List D) (accF : List (D × D)) (ρF : Env) (i : Nat) (H : Hp) (ρi : Env) (Fi : Hp) (acc : List (D × D)) (accV : List NE) (o : HO) : Prop where
  run : dcompF (ckOf ρ1 rs) own g t ek ev' (ds.drop i) acc ρi = some (accF, ρF)
  rl : Rl K b (wipe σ own) H (wipeE ρi own) Fi ad
  same : Same F1 Fi
  at_ : H Dd = some o
  ato : AtO o Dd accV
  rps : NRps K Fi accV acc
  few : acc.length ≤ i
  hF : Fi Dd = none
  nc : ∀ (j : Nat) s d, (wipeE ρi own)[j]? = some s → s.cell = some d → ad j ≠ Dd
  st : ∀ (j : Nat) t d, RV.at j ∈ rs → ρ1[j]? = some t → t.cell = some d → ρi[j]? = some t
  len : ρi.length = σ.length
theorem dc_fin {K : Frag} {C : Cf} {gt : D → Env → Option Env} {tt : Env → Option (Bool × Env)} {tk te : Env → Option (RV × Env)} {it : Env → Option (List D × List RV × Env)} {own : List Nat} {σ : St} {H : Hp} {Q : VK}
    {b : Bs} {ρ : Env} {F : Hp} {ad : Nat → Addr} {ds : List D} {rs : List RV} {us : List D} {ρ1 ρF : Env} {accF : List (D × D)} (B : BoOk b) (R : Rl K b σ H ρ F ad) (e1 : it ρ = some (ds, rs, ρ1)) (eu : rds ρ1 rs = some us) (hn : noCell ρ1 own = true)
    (e2 : dcompF (ckOf ρ1 rs) own gt tt tk te ds [] ρ1 = some (accF, ρF)) (hz : ds.length ≤ LL)
    (h : ∀ v H' F', Rl K b σ H' (restore ρ1 ρF own) F' ad → Same F F' → RvR K b σ H' (restore ρ1 ρF own) F' ad v (.new (.dic accF)) → Q v H') :
    tDcS (rDs K) (tDi K it) (tgN K gt own) (tDt K tt) (tD K tk) (tD K te) own σ H Q := by
  refine ⟨b, ρ, F, ad, ds, rs, us, ρ1, B, R, e1, eu, fun J vs H1 F1 R1 s1 hv wk Dd hD => ?_⟩
  have h0 := R1.dom Dd hD
  refine ⟨fun i m H => m = ds.length - i ∧ i ≤ ds.length ∧ ∃ ρi Fi acc accV o, DInv K C b σ own ρ1 rs F1 ad Dd gt tt tk te ds accF ρF i H ρi Fi acc accV o, ⟨ds.length, by simp, Nat.zero_le _, ρ1, F1, [], [], .dK [], ?_⟩, ?_⟩
  · exact ⟨e2, (R1.alloc hD).wipe own, Same.refl _, upd_same, .inr ⟨rfl, rfl⟩, .nil, Nat.le_refl _, R1.free hD, fun j s d q c => by
      rcases wipeE_some q with z | ⟨z, _⟩
      · subst z; cases c
      · exact R1.celN hD j s d z c, fun j t d _ q _ => q, R1.len⟩
  · rintro i m H2 ⟨rfl, hi, ρi, Fi, acc, accV, o, I⟩
    have lk : Lks K Fi H2 vs us := walked R1 hn I.rl I.same hv eu I.st
    by_cases hlt : i < ds.length
    · have hd : ds[i]? = some ds[i] := List.getElem?_eq_getElem hlt
      have hdrop : ds.drop i = ds[i] :: ds.drop (i + 1) := List.drop_eq_getElem_cons hlt
      have run := I.run
      rw [hdrop] at run
      unfold dcompF at run
      split at run
      · cases run
      · rename_i ρg eg
        refine .inr ⟨wk.go i Fi H2 hlt I.same I.rl.sub lk, fun H' => ∃ ρi Fi acc accV o, DInv K C b σ own ρ1 rs F1 ad Dd gt tt tk te ds accF ρF (i + 1) H' ρi Fi acc accV o, fun H' ⟨ρi, Fi, acc, accV, o, I'⟩ => ⟨ds.length - (i + 1), by omega, rfl, hlt, ρi, Fi, acc, accV, o, I'⟩, fun x H3 hy => ?_⟩
        obtain ⟨F3, R3, s3, x3, e3, hF3, c3⟩ : ∃ F3, Rl K b (wipe σ own) H3 (wipeE ρi own) F3 ad ∧ Same Fi F3 ∧ Rp K F3 x ds[i] ∧ H3 Dd = some o ∧ F3 Dd = none ∧ (∀ (j : Nat) s d, (wipeE ρi own)[j]? = some s → s.cell = some d → ad j ≠ Dd) := by
          rcases wk.yld i Fi H2 x H3 _ hd I.same I.rl.sub lk hy with ⟨rfl, rx⟩ | ⟨p, xs, es, rfl, hp, rfl, ed, rx⟩
          · exact ⟨Fi, I.rl, Same.refl _, rx, I.at_, I.hF, I.nc⟩
          · obtain ⟨R', s'⟩ := (I.rl.alloc (o := .tup xs) hp).keepNew upd_same (I.rl.free hp) (I.rl.dom p hp) (I.rl.celN hp)
            have ne : Dd ≠ p := ne_of_none I.at_ hp
            refine ⟨_, R', s', ?_, by rw [upd_ne ne]; exact I.at_, by rw [upd_ne ne]; exact I.hF, I.nc⟩
            rw [ed]
            exact .tup (.of upd_same) (rx.mono s')
        refine ⟨_, _, F3, ad, ds[i], ρg, R3.rebase, x3, eg, fun σ4 R4 l4 a4 => ⟨?_, ?_⟩⟩
        · rw [wipe_length] at l4
          rw [← wipe_wipe (σ := σ)]
          exact wipe_eq (by rw [l4, wipe_length]) a4
        have w4 : wipe σ4 own = wipe σ own := by
          rw [← wipe_wipe (σ := σ)]
          exact wipe_eq l4 a4
        have B3 := B.at R3
        split at run
        · cases run
        · rename_i ρt et
          split at run
          · rename_i hck
            refine ⟨_, ρg, F3, ad, false, ρt, B3, R4, et, fun H5 F5 R5 s5 => ?_⟩
            refine iteF ?_
            have R5' := R3.unbase R5
            refine ⟨ρt, F5, acc, accV, o, run, ?_, I.same.trans (s3.trans s5), R3.temp R5 e3 h0 c3 B, I.ato, I.rps.mono (s3.trans s5), Nat.le_succ_of_le I.few, R3.tempF R5 e3 hF3 c3, ?_, ck_stands hck, ?_⟩
            · have := R5'.wipe own
              rwa [w4] at this
            · exact fun j s d q c => by
                rcases wipeE_some q with z | ⟨z, _⟩
                · subst z; cases c
                · exact Rl.tempC B R3 R5 e3 h0 c3 j s d z c
            · rw [R5.len, l4, wipe_length]
          · cases run
        · rename_i ρt et
          split at run
          · rename_i kd ρk ek
            split at run
            · rename_i vd ρy ey
              split at run
              · rename_i hck
                rw [Bool.and_eq_true, Bool.and_eq_true] at hck
                obtain ⟨⟨hk1, hv1⟩, hck⟩ := hck
                obtain ⟨k, hk⟩ := Option.isSome_iff_exists.mp hk1
                refine ⟨_, ρg, F3, ad, true, ρt, B3, R4, et, fun H5 F5 R5 s5 => ?_⟩
                refine iteT ?_
                refine .now B3 R5 ek fun w H6 F6 R6 s6 x6 => ?_
                have rk : Rp K F6 w kd := x6
                obtain ⟨c, rfl⟩ := nkT_ref hk rk
                refine .now B3 R6 ey fun w2 H7 F7 R7 s7 x7 => ?_
                have rv : Rp K F7 w2 vd := x7
                have e8 : H7 Dd = some o := R3.temp R7 e3 h0 c3 B
                have hF8 := R3.tempF R7 e3 hF3 c3
                have c8 := Rl.tempC B R3 R7 e3 h0 c3
                have R7' := R3.unbase R7
                have ss : Same Fi F7 := s3.trans (s5.trans (s6.trans s7))
                have rps := I.rps.mono ss
                refine ⟨F7, c, accV, acc, kd, k, rfl, ⟨R7.sub, I.ato.at e8 rps, hk, rk.mono s7⟩, ?_, fun od => ⟨ρy, F7, dput acc kd vd, putE accV k c w2, dN Dd od (putE accV k c w2), run, ?_, I.same.trans ss, upd_same, .inl ⟨od, rfl⟩, rps.put hk (rk.mono s7) rv, ?_, hF8, ?_, ck_stands hck, ?_⟩⟩
                · have := I.rps.length
                  have := I.few
                  have hLL : LL < sizeLine := LL_lt
                  omega
                · have := (R7'.over (o := dN Dd od (putE accV k c w2)) hF8 h0 c8).wipe own
                  rwa [w4] at this
                · have := dput_len acc kd vd
                  have := I.few
                  omega
                · exact fun j s d q c => by
                    rcases wipeE_some q with z | ⟨z, _⟩
                    · subst z; cases c
                    · exact c8 j s d z c
                · rw [R7.len, l4, wipe_length]
              · cases run
            · cases run
          · cases run
    · have hi' : i = ds.length := by omega
      subst hi'
      have run := I.run
      rw [List.drop_length] at run
      unfold dcompF at run
      cases run
      refine .inl ⟨wk.stop Fi H2 I.same I.rl.sub lk, ?_⟩
      have RF := Rl.restore R1 I.rl I.same hn I.len
      have ob : Ob K Fi H2 Dd (.dic accF) := by
        rcases I.ato with ⟨od, rfl⟩ | ⟨rfl, z⟩
        · exact .inr ⟨od, accV, I.at_, I.rps⟩
        · have r := I.rps
          rw [z] at r
          cases r
          exact .inl ⟨[], I.at_, .nil⟩
      refine h (.ref Dd) H2 Fi RF (s1.trans I.same) ⟨Dd, rfl, I.hF, ob, fun j s d q c => ?_, h0⟩
      rcases restore_some q with ⟨h1, h2⟩ | ⟨h1, h2⟩
      · rcases h2 with h2 | h2
        · subst h2; cases c
        · rw [noCell_at hn h1 h2] at c; cases c
      · exact I.nc j s d (by rw [wipeE_out h1]; exact h2) c
end Z

set_option linter.all false
set_option autoImplicit false
set_option Elab.async false
set_option maxRecDepth 100000
/-! Z, part 12b: a def's promise where no repr is on its way (for repr). -/
namespace Z
open PySem PySem.Spec PyProof.Rows L2
structure FnG (P : Program) (w : World) (K : PySem.W.Frag) (mg : Str → Option Value) (base : Heap) (k : Nat) (f : Addr) (fd : FuncData) (ps : List Str) (sp : Sp) : Prop where
  len : ∀ vs H Q E, sp vs H Q E → vs.length = ps.length
  run : ∀ (A : Around) (outer : List PySem.Env) (s : Shared) (H : Hp) (args : Args) (us : List Value) (vs : List V) (Q : VK) (E : XK), A.guards = some [] → Room k A → Env0 P w K mg base A outer s H → BindsTo s fd args (ps.zip us) → Vals vs us → sp vs H Q E →
    codeAny (model P w) A (.call (.ref f) args) (CR C8.CX0 outer P w H s Q E) s
theorem deeper_guards (A : Around) (env : PySem.Env) : (A.deeper env).guards = A.guards := rfl
section
variable {X : Cx} {k n : Nat} {f : Addr} {fd : FuncData} {ps ks : List Str} {sp : Sp} {g : List Value → List Value → List Value} {gV : List V → List V → List V}
theorem FnG.called {pins : List (Addr × Obj)} {σ : St} {H : Hp} {s : Shared} {Q : VK} {E : XK} {us ws : List Value} {vs zs : List V} (F : FnG X.prog X.w X.K X.mg X.base k f fd ps sp) (quiet : X.A.guards = some []) (room : Room k X.A) (kb : KBn X.K fd ps n ks g gV)
    (I : Inv X pins σ H s) (rv : Vals vs us) (rz : Vals zs ws) (lv : vs.length = n) (lz : zs.length = ks.length) (h : sp (gV vs zs) H Q E) : wpAny (model X.prog X.w) X.A (call (.ref f) us (ks.zip ws)) (EP X pins σ Q) X.xe s := by
  have code := F.run X.A X.stack s H ⟨us, ks.zip ws⟩ (g us ws) (gV vs zs) Q E quiet room I.env0 (kb.to s us ws I.kIn (rv.length.symm.trans lv) (rz.length.symm.trans lz)) (kb.rel rv rz) h
  refine wpAny_call (codeAny_mono code fun r s' hq => ?_)
  match r, hq with
  | .error e, hq => exact (C8.pass0 (X := X) (E := E)) pins σ H s e s' I hq
  | .ok (.ret u), hq => exact I.after hq
  | .ok .next, hq => exact hq.elim
  | .ok .brk, hq => exact hq.elim
  | .ok .cont, hq => exact hq.elim
end
section
variable {P : Program} {w : World} {K : PySem.W.Frag} {mg : Str → Option Value} {base : Heap} {x qual : Str} {params : Arguments} {body : List Stmt} {scope : Scope} {dvs : List V} {kws : List (Str × V)} {f : Addr} {fd : FuncData}
/-- a def by its body -/
theorem FnG.of {N ps : List Str} {k : Nat} {sp : Sp} (D : FunD K x qual params body scope dvs kws f fd) (S : FnScope N ps scope) (many : ∀ vs H Q E, sp vs H Q E → vs.length = ps.length)
    (walk : ∀ (cdv : Value) (A : Around) (outer : List PySem.Env) (s : Shared) (H : Hp) (vs : List V) (Q : VK) (E : XK), A.guards = some [] → Room k (A.deeper (envOfC qual scope s.heap.objs.size f cdv)) → sp vs H Q E →
      ∃ t, PSs (cxOf C8.CX0 P w K mg base N qual scope f cdv A outer s H E) body t ∧ t { nx := fun _ H' => Q .non H', rt := Q } (start N vs) H) : FnG P w K mg base (k + 1) f fd ps sp := by
  obtain ⟨oc, od, dV, kV, doc, pm, an, cdv, ct, osl, e, stands, hcd, _, _⟩ := D.ex
  subst e
  refine ⟨many, fun A outer s H args us vs Q E quiet room e0 bt rv h => ?_⟩
  have nl : s.heap.NoLimit := e0.mod.nolimit.keeps fun b o eo => (e0.bs b o eo).1
  have kin : K.In s.heap := e0.mod.kin.keeps fun b o eo => (e0.bs b o eo).1
  obtain ⟨t, pss, ht⟩ := walk cdv A outer s H vs Q E quiet (room.deeper _) h
  refine codeAny_call_function room.depth (kin _ _ stands) rfl S.co S.gen rfl (PySem.W.codeRec_of kin hcd) (bt _ _ _ _ ?_)
  refine wpAny_newFunctionEnv_cells S.kind (fun y hy => ?_) fun env ee s1 made => ?_
  · obtain ⟨y1, y2⟩ := y
    exact (S.par y1 (List.of_mem_zip hy).1).imp id fun q => ⟨q, PySem.W.cellsFrom_some _ _ _ (.inl q)⟩
  · subst ee
    refine ⟨nl.keeps made.toInCall.keep, codeAny_func ?_⟩
    have I0 : L2.Inv (cxOf C8.CX0 P w K mg base N qual scope f cdv A outer s H E) [] (start N vs) H s1 := inv_start S room.hd e0 (many _ _ _ _ h) rv made
    have back : ∀ {σ' : St} {H' : Hp} {v : V} {u : Value} {s' : Shared}, L2.Inv (cxOf C8.CX0 P w K mg base N qual scope f cdv A outer s H E) [] σ' H' s' → RelV v u → Q v H' → CE outer P w H s Q u s' := fun J ru q => ⟨_, _, J.os, J.bare, J.base, J.hok, ru, q⟩
    refine wpAny_mono (pss.run [] s1 (start N vs) H _ I0 ht) (fun fl s' hs => ?_) fun e s' hs => hs
    match fl, hs with
    | .ret u, ⟨v, σ', H', J, ru, q⟩ => exact back J ru q
    | .next, ⟨σ', H', J, q⟩ => exact back (v := V.non) (u := Value.none) J rfl q
    | .brk, ⟨_, _, _, q⟩ => exact False.elim q
    | .cont, ⟨_, _, _, q⟩ => exact False.elim q
end
end Z

set_option linter.all false
set_option autoImplicit false
set_option Elab.async false
set_option maxRecDepth 100000
/-! Z, part 12: calls of defs. -/
namespace Z
open PySem PySem.Spec PyProof.Rows L2
section
variable {K : Frag} {b : Bs} {σ : St} {H H' : Hp} {ρ : Env} {F F' : Hp} {ad : Nat → Addr}
/-- behind a call that changed no slot's object -/
theorem Rl.called (R : Rl K b σ H ρ F ad) (s1 : Same F F') (s2 : Same F' H') (fd : ∀ a o, F' a = some o → F a = some o ∨ H a = none) (old : ∀ a o, H a = some o → H' a = some o) : Rl K b σ H' ρ F' ad where
  sub := s2
  f0 := R.f0.trans s1
  fd := fun a o e => by
    rcases fd a o e with h | h
    · exact R.fd a o h
    · exact .inr (R.dom a h)
  old := fun a o e n => old a o (R.old a o e n)
  dom := fun a e => R.dom a (by
    cases q : H a with
    | none => rfl
    | some o => rw [old a o q] at e; cases e)
  len := R.len
  val := fun i d e => by
    obtain ⟨v, q1, q2⟩ := R.val i d e
    exact ⟨v, q1, q2.mono s1⟩
  cel := fun i s d e c => by
    obtain ⟨q1, q2, q3⟩ := R.cel i s d e c
    refine ⟨q1, ?_, q3.mono s1 fun o z => old _ _ z⟩
    cases q : F' (ad i) with
    | none => rfl
    | some o =>
      rcases fd _ _ q with h | h
      · rw [q2] at h; cases h
      · obtain ⟨o, ho⟩ := Ob.ex q3
        rw [h] at ho; cases ho
  inj := R.inj
  own := R.own
  bor := R.bor
/-- behind a call that changed one slot's object -/
theorem Rl.calledB (R : Rl K b σ H ρ F ad) {i : Nat} {s : Sl} {d d' : D} (e : ρ[i]? = some s) (c : s.cell = some d) (s1 : Same F F') (s2 : Same F' H') (fd : ∀ a o, F' a = some o → F a = some o ∨ H a = none)
    (old : ∀ a o, H a = some o → some (ad i) ≠ some a → H' a = some o) (hF : F' (ad i) = none) (ob : Ob K F' H' (ad i) d') : Rl K b σ H' (ρ.set i (s.to d')) F' ad := by
  have hi : i < ρ.length := (List.getElem?_eq_some_iff.mp e).1
  have ne : ∀ (j : Nat) t, (ρ.set i (s.to d'))[j]? = some t → (j = i ∧ t = s.to d') ∨ (j ≠ i ∧ ρ[j]? = some t) := fun j t q => by
    by_cases z : j = i
    · subst z; rw [List.getElem?_set_self hi] at q; cases q; exact .inl ⟨rfl, rfl⟩
    · rw [List.getElem?_set_ne (Ne.symm z)] at q; exact .inr ⟨z, q⟩
  obtain ⟨c1, c2, c3⟩ := R.cel i s d e c
  have nv : ∀ x, Sl.val x ≠ s.to d' := fun x z => by
    cases s with
    | no => cases c
    | val => cases c
    | own => cases z
    | bor => cases z
  refine { sub := s2, f0 := R.f0.trans s1, fd := fun a o q => ?_, old := fun a o q n => ?_, dom := fun a q => ?_, len := by rw [List.length_set]; exact R.len, val := fun j x q => ?_, cel := fun j t x q ct => ?_, inj := fun j k t u x y q1 q2 t1 t2 z => ?_, own := fun j x q => ?_, bor := fun j x q => ?_ }
  · rcases fd a o q with h | h
    · exact R.fd a o h
    · exact .inr (R.dom a h)
  · refine old a o (R.old a o q n) fun z => ?_
    cases z
    cases s with
    | no => cases c
    | val => cases c
    | own => rw [R.own i _ e] at q; cases q
    | bor => exact n (R.bor i _ e)
  · by_cases z : ad i = a
    · obtain ⟨o, ho⟩ := Ob.ex ob
      rw [← z, ho] at q; cases q
    · refine R.dom a ?_
      cases w : H a with
      | none => rfl
      | some o => rw [old a o w fun h => z (Option.some.inj h)] at q; cases q
  · rcases ne j _ q with ⟨hj, h'⟩ | ⟨h', q'⟩
    · exact absurd h' (nv x)
    · obtain ⟨v, q1, q2⟩ := R.val j x q'
      exact ⟨v, q1, q2.mono s1⟩
  · rcases ne j _ q with ⟨hj, h'⟩ | ⟨h', q'⟩
    · subst h'
      rw [Sl.to_cell c] at ct
      cases ct
      rw [hj]
      exact ⟨c1, hF, ob⟩
    · obtain ⟨q1, q2, q3⟩ := R.cel j t x q' ct
      refine ⟨q1, ?_, q3.mono s1 fun o z => old _ _ z fun w => h' (R.inj j i _ _ _ _ q' e ct c (Option.some.inj w).symm)⟩
      cases w : F' (ad j) with
      | none => rfl
      | some o =>
        rcases fd _ _ w with h | h
        · rw [q2] at h; cases h
        · obtain ⟨o, ho⟩ := Ob.ex q3
          rw [h] at ho; cases ho
  · rcases ne j _ q1 with ⟨hj, h'⟩ | ⟨h', q1'⟩
    · rcases ne k _ q2 with ⟨hk, h2⟩ | ⟨h2, q2'⟩
      · rw [hj, hk]
      · exact R.inj j k s u d y (hj ▸ e) q2' c t2 z
    · rcases ne k _ q2 with ⟨hk, h2⟩ | ⟨h2, q2'⟩
      · exact R.inj j k t s x d q1' (hk ▸ e) t1 c z
      · exact R.inj j k t u x y q1' q2' t1 t2 z
  · rcases ne j _ q with ⟨hj, h'⟩ | ⟨h', q'⟩
    · cases s with
      | no => cases c
      | val => cases c
      | own => rw [hj]; exact R.own i _ e
      | bor => cases h'
    · exact R.own j x q'
  · rcases ne j _ q with ⟨hj, h'⟩ | ⟨h', q'⟩
    · cases s with
      | no => cases c
      | val => cases c
      | own => cases h'
      | bor => rw [hj]; exact R.bor i _ e
    · exact R.bor j x q'
end
/-! ### promises -/
/-- a def's answer -/
def ResR (K : Frag) (F H H0 : Hp) (v : V) : RV → Prop
  | .val d => Rp K F v d
  | .new d => ∃ a, v = .ref a ∧ F a = none ∧ Ob K F H a d ∧ H0 a = none
  | .at _ => False
/-- what is wanted behind a call -/
def Aft (K : Frag) (H F0 : Hp) (bo : Option Addr) (r : RV) (m : Option D) (Q : VK) : Prop :=
  ∀ v H' F', Same F0 F' → Same F' H' → (∀ a o, F' a = some o → F0 a = some o ∨ H a = none) → (∀ a o, H a = some o → bo ≠ some a → H' a = some o) → (∀ a d, bo = some a → m = some d → F' a = none ∧ Ob K F' H' a d) → ResR K F' H' H v r → Q v H'
/-- a def's promise: it hands back what the evaluator says -/
def spF (K : Frag) (cf : Str → List D → Option (RV × Option D)) (f : Str) : Sp := fun vs H Q _ => ∃ F0 ds r m, Same F0 H ∧ cf f ds = some (r, m) ∧
  ((m = none ∧ Rps K F0 vs ds ∧ Aft K H F0 none r none Q) ∨
    ∃ a vr d dr d', m = some d' ∧ vs = .ref a :: vr ∧ ds = d :: dr ∧ F0 a = none ∧ Ob K F0 H a d ∧ Rps K F0 vr dr ∧ Aft K H F0 (some a) r m Q)
theorem rds_len {ρ : Env} : ∀ {rs : List RV} {ds : List D}, rds ρ rs = some ds → ds.length = rs.length
  | [], _, e => by cases e; rfl
  | r :: rs, ds, e => by
    unfold rds at e
    cases q : rd ρ r with
    | none => rw [q] at e; cases e
    | some d =>
      rw [q] at e
      cases q2 : rds ρ rs with
      | none => rw [q2] at e; cases e
      | some dr => rw [q2] at e; cases e; exact congrArg Nat.succ (rds_len q2)
section
variable {K : Frag} {C : Cf} {b : Bs} {σ : St} {H : Hp} {ρ ρ' : Env} {F : Hp} {ad : Nat → Addr}
theorem call_fin {f : Str} {us : List V} {ps : List RV} {ds : List D} {r r' : RV} {m : Option D} {Q : VK} {E : XK} (R : Rl K b σ H ρ F ad) (hu : Hds K σ F us ps) (e1 : rds ρ ps = some ds) (e2 : C.call f ds = some (r, m)) (e3 : after ρ ps r m = some (r', ρ'))
    (h : ∀ v H' F', Rl K b σ H' ρ' F' ad → Same F F' → RvR K b σ H' ρ' F' ad v r' → Q v H') : spF K C.call f us H Q E := by
  unfold after at e3
  split at e3
  · -- the first one's object is changed
    rename_i dm
    split at e3
    · rename_i himm
      split at e3
      · rename_i i rest
        split at e3
        · rename_i ρ2 es
          split at e3
          · rename_i s hs
            split at e3
            · rename_i hc
              cases e3
              obtain ⟨d, hc⟩ := Option.isSome_iff_exists.mp hc
              cases hu with
              | cons x xs =>
                rename_i v0 vr
                unfold rds at e1
                cases q : rd ρ (.at i) with
                | none => rw [q] at e1; cases e1
                | some d0 =>
                  rw [q] at e1
                  cases q2 : rds ρ rest with
                  | none => rw [q2] at e1; cases e1
                  | some dr =>
                    rw [q2] at e1
                    cases e1
                    obtain ⟨F2, R2, s2, p2⟩ := R.stls xs q2 es
                    obtain ⟨c1, c2, c3⟩ := R2.cel i s d hs hc
                    have x' : σ[i]? = some (some v0) := x
                    rw [x'] at c1
                    cases c1
                    have hq : ρ[i]? = some s ∧ rd ρ (.at i) = some d := by
                      have z := rd_stls es (.at i)
                      have z1 : rd ρ2 (.at i) = some d := by
                        unfold rd
                        dsimp only
                        rw [hs]
                        cases s with
                        | no => cases hc
                        | val => cases hc
                        | own => exact hc
                        | bor => exact hc
                      exact ⟨cell_stls es hs hc, by rw [← z]; exact z1⟩
                    rw [hq.2] at q
                    cases q
                    refine ⟨F2, _, _, _, R2.sub, e2, .inr ⟨ad i, vr, d, dr, .lst dm, rfl, rfl, rfl, c2, c3, p2, fun v H' F' s3 s4 fd old bo res => ?_⟩⟩
                    obtain ⟨b1, b2⟩ := bo _ _ rfl rfl
                    have dom : ∀ a, H' a = none → H a = none := fun a z => by
                      cases w : H a with
                      | none => rfl
                      | some o =>
                        by_cases y : ad i = a
                        · obtain ⟨o', ho⟩ := Ob.ex b2
                          rw [← y, ho] at z; cases z
                        · rw [old a o w fun q => y (Option.some.inj q)] at z; cases z
                    cases hir : lite r with
                    | true =>
                      rw [hir, if_pos rfl] at h
                      have ob : Ob K F H' (ad i) (.lst dm) := by
                        obtain ⟨xs, z1, z2⟩ := b2
                        exact ⟨xs, z1, z2.imm himm⟩
                      refine h v H' F (R.calledB hq.1 hc (Same.refl _) (s2.trans (s3.trans s4)) (fun a o z => .inl z) old ?_ ob) (Same.refl _) ?_
                      · exact (R.cel i s d hq.1 hc).2.1
                      · cases r with
                        | val d' => exact Rp.imm res hir
                        | new d' =>
                          cases d' with
                          | lst dl =>
                            obtain ⟨a, rfl, z1, ⟨xs, w1, w2⟩, z3⟩ := res
                            refine ⟨a, rfl, R.free z3, ⟨xs, w1, w2.imm hir⟩, fun j t e' w ct z => ?_, R.dom a z3⟩
                            by_cases hj : j = i
                            · rw [hj] at z
                              obtain ⟨o, ho⟩ := Ob.ex c3
                              rw [z, z3] at ho; cases ho
                            · rw [List.getElem?_set_ne (Ne.symm hj)] at w
                              exact R.celN z3 j t e' w ct z
                          | _ => cases hir
                        | «at» j => cases hir
                    | false =>
                      rw [hir, if_neg Bool.false_ne_true] at h
                      have R3 := R2.calledB hs hc s3 s4 fd old b1 b2
                      refine h v H' F' R3 (s2.trans s3) ?_
                      cases r with
                      | val d' => exact res
                      | «at» j => exact res.elim
                      | new d' =>
                        obtain ⟨a, rfl, z1, z2, z3⟩ := res
                        refine ⟨a, rfl, z1, z2, fun j t e' w ct z => ?_, R.dom a z3⟩
                        obtain ⟨_, _, ob⟩ := R3.cel j t e' w ct
                        by_cases hj : j = i
                        · rw [hj] at z
                          obtain ⟨o, ho⟩ := Ob.ex c3
                          rw [z, z3] at ho; cases ho
                        · rw [List.getElem?_set_ne (Ne.symm hj)] at w
                          obtain ⟨_, _, ob⟩ := R2.cel j t e' w ct
                          obtain ⟨o, ho⟩ := Ob.ex ob
                          rw [z, z3] at ho; cases ho
            · cases e3
          · cases e3
        · cases e3
      · cases e3
    · cases e3
  · cases e3
  · split at e3
    · rename_i ρ2 es
      cases e3
      obtain ⟨F2, R2, s2, p2⟩ := R.stls hu e1 es
      refine ⟨F2, ds, _, none, R2.sub, e2, .inl ⟨rfl, p2, fun v H' F' s3 s4 fd old _ res => ?_⟩⟩
      have old' : ∀ a o, H a = some o → H' a = some o := fun a o e => old a o e (fun z => nomatch z)
      cases hir : lite r with
      | true =>
        rw [hir, if_pos rfl] at h
        refine h v H' F (R.called (Same.refl _) (s2.trans (s3.trans s4)) (fun a o z => .inl z) old') (Same.refl _) ?_
        cases r with
        | val d' => exact Rp.imm res hir
        | new d' =>
          cases d' with
          | lst dl =>
            obtain ⟨a, rfl, z1, ⟨xs, w1, w2⟩, z3⟩ := res
            exact ⟨a, rfl, R.free z3, ⟨xs, w1, w2.imm hir⟩, R.celN z3, R.dom a z3⟩
          | _ => cases hir
        | «at» j => cases hir
      | false =>
        rw [hir, if_neg Bool.false_ne_true] at h
        have R3 := R2.called s3 s4 fd old'
        refine h v H' F' R3 (s2.trans s3) ?_
        cases r with
        | val d' => exact res
        | «at» j => exact res.elim
        | new d' =>
          obtain ⟨a, rfl, z1, z2, z3⟩ := res
          refine ⟨a, rfl, z1, z2, fun j t e' w ct z => ?_, R.dom a z3⟩
          obtain ⟨_, _, ob⟩ := R2.cel j t e' w ct
          obtain ⟨o, ho⟩ := Ob.ex ob
          rw [z, z3] at ho; cases ho
    · cases e3
where
  rd_stls {ρ ρ2 : Env} : ∀ {rs : List RV}, Z.stls ρ rs = some ρ2 → ∀ t, rd ρ2 t = rd ρ t := by
    intro rs
    induction rs generalizing ρ with
    | nil => intro e t; cases e; rfl
    | cons r rs ih =>
      intro e t
      unfold Z.stls at e
      cases q : Z.stl ρ r with
      | none => rw [q] at e; cases e
      | some p =>
        obtain ⟨d, ρ1⟩ := p
        rw [q] at e
        rw [ih e t]
        exact Rl.stls.rd_stl q t
  cell_stls {ρ ρ2 : Env} {i : Nat} {s : Sl} {d : D} : ∀ {rs : List RV}, Z.stls ρ rs = some ρ2 → ρ2[i]? = some s → s.cell = some d → ρ[i]? = some s := by
    intro rs
    induction rs generalizing ρ with
    | nil => intro e h c; cases e; exact h
    | cons r rs ih =>
      intro e h c
      unfold Z.stls at e
      cases q : Z.stl ρ r with
      | none => rw [q] at e; cases e
      | some p =>
        obtain ⟨d', ρ1⟩ := p
        rw [q] at e
        have h1 := ih e h c
        cases r with
        | val => cases q; exact h1
        | new => cases q; exact h1
        | «at» j =>
          unfold Z.stl at q
          dsimp only at q
          cases z : ρ[j]? with
          | none => rw [z] at q; cases q
          | some t =>
            rw [z] at q
            cases t with
            | no => cases q
            | bor _ => cases q
            | val _ => cases q; exact h1
            | own _ =>
              cases q
              by_cases hj : i = j
              · subst hj
                rw [List.getElem?_set_self (List.getElem?_eq_some_iff.mp z).1] at h1
                cases h1
                cases c
              · rw [List.getElem?_set_ne (Ne.symm hj)] at h1
                exact h1
end
end Z

set_option linter.all false
set_option autoImplicit false
set_option Elab.async false
set_option maxRecDepth 100000
/-! Z, part 13: calls of defs as expressions. -/
namespace Z
open PySem PySem.Spec PyProof.Rows L2
theorem _root_.L2.PK.imp {X : Cx} {e : List Keyword} {t t' : TA} (h : PK X e t) (i : ∀ σ H Q, t' σ H Q → t σ H Q) : PK X e t' := ⟨fun pos pins s σ H Q I q => h.run pos pins s σ H Q I (i σ H Q q)⟩
def Exs.app : Exs → Exs → Exs
  | .nil, b => b
  | .cons e a, b => .cons e (a.app b)
theorem evs_app {C : Cf} : ∀ (a b : Exs) {ρ : Env} {rs : List RV} {ρ' : Env}, evs C (a.app b) ρ = some (rs, ρ') → ∃ r1 r2 ρ1, evs C a ρ = some (r1, ρ1) ∧ evs C b ρ1 = some (r2, ρ') ∧ rs = r1 ++ r2
  | .nil, b, ρ, rs, ρ', e => ⟨[], rs, ρ, by simp [evs], e, rfl⟩
  | .cons x a, b, ρ, rs, ρ', e => by
    simp only [Exs.app, evs] at e
    split at e
    · rename_i r ρ1 e1
      split at e
      · rename_i rs2 ρ2 e2
        cases e
        obtain ⟨q1, q2, ρ3, h1, h2, rfl⟩ := evs_app a b e2
        exact ⟨r :: q1, q2, ρ3, by simp only [evs, e1, h1], h2, rfl⟩
      · cases e
    · cases e
/-- how arguments are put into the parameters' order, by values and by answers alike -/
def Arr (n m : Nat) (gV : List V → List V → List V) (g : List (Nat ⊕ D)) : Prop :=
  ∀ (K : Frag) (σ : St) (F : Hp) (vs zs : List V) (r1 r2 ps : List RV), r1.length = n → r2.length = m → Hds K σ F vs r1 → Hds K σ F zs r2 → arrange (r1 ++ r2) g = some ps → Hds K σ F (gV vs zs) ps
section
variable {X : Cx} {C : Cf} {pos : Pos}
theorem snd_knil : PK X [] (tDs X.K (evs C .nil)) := pk_nil.imp fun σ H Q ⟨b, ρ, F, ad, r, ρ', B, R, e, h⟩ => by
  cases e; exact h _ H F R (Same.refl _) .nil
theorem snd_kcons {e : Expr} {kws : List Keyword} {nm : Option Str} {kp : Pos} {se : Ex} {ses : Exs} (h1 : PE X e (tD X.K <| ev C <| se)) (h2 : PK X kws (tDs X.K (evs C ses))) : PK X (⟨nm, e, kp⟩ :: kws) (tDs X.K (evs C (.cons se ses))) :=
  (pk_cons h1 h2).imp fun σ H Q ⟨b, ρ, F, ad, r, ρ', B, R, e, h⟩ => by
    simp only [evs] at e
    split at e
    · rename_i r1 ρ1 e1
      split at e
      · rename_i rs ρ2 e2
        cases e
        refine .now B R e1 fun v H1 F1 R1 s1 x1 => ?_
        obtain ⟨F1', R1', s1', d1⟩ := R1.hold x1
        exact ⟨b, ρ1, F1', ad, rs, _, B, R1', e2, fun vs H2 F2 R2 s2 x2 => h (v :: vs) H2 F2 R2 (s1.trans (s1'.trans s2)) (.cons (d1.mono s2) x2)⟩
      · cases e
    · cases e
/-- the two rows of arguments, then the def -/
theorem call_two {f : Str} {s1 s2 : Exs} {g : List (Nat ⊕ D)} {n m : Nat} {gV : List V → List V → List V} (har : Arr n m gV g) (l1 : s1.len = n) (l2 : s2.len = m) {σ : St} {H : Hp} {Q : VK} (h : tD X.K (ev C (.call f (s1.app s2) g)) σ H Q) :
    tDs X.K (evs C s1) σ H fun vs H1 => tDs X.K (evs C s2) σ H1 fun zs H2 => vs.length = n ∧ zs.length = m ∧ spF X.K C.call f (gV vs zs) H2 Q E0 := by
  obtain ⟨b, ρ, F, ad, r, ρ', B, R, e, h⟩ := h
  simp only [ev] at e
  split at e
  · rename_i rs ρ1 e1
    obtain ⟨q1, q2, ρa, ea, eb, rfl⟩ := evs_app _ _ e1
    refine ⟨b, ρ, F, ad, q1, ρa, B, R, ea, fun vs H1 F1 R1 t1 x1 => ⟨b, ρa, F1, ad, q2, ρ1, B, R1, eb, fun zs H2 F2 R2 t2 x2 => ?_⟩⟩
    have k1 := (evs_len s1 ea).trans l1
    have k2 := (evs_len s2 eb).trans l2
    refine ⟨x1.length.trans k1, x2.length.trans k2, ?_⟩
    unfold callWith at e
    split at e
    · rename_i ps ep
      split at e
      · rename_i ds ed
        split at e
        · rename_i r0 m0 ec
          exact call_fin R2 (har X.K σ F2 vs zs q1 q2 ps k1 k2 (x1.mono t2) x2 ep) ed ec e fun v H' F' R' s' x' => h v H' F' R' (t1.trans (t2.trans s')) x'
        · cases e
      · cases e
    · cases e
  · cases e
variable {k n : Nat} {a : Addr} {fd : FuncData} {ps ks : List Str} {f : Str} {p : Pos} {g : List Value → List Value → List Value} {gV : List V → List V → List V} {gr : List (Nat ⊕ D)} {s1 s2 : Exs}
/-- f(.., k = ..) -/
theorem snd_callT {es : List Expr} {kws : List Keyword} (F : FnG X.prog X.w X.K X.mg X.base k a fd ps (spF X.K C.call f)) (quiet : X.A.guards = some []) (hr : Room k X.A) (hg : Gl X f) (hm : X.mg f = some (.ref a)) (hk : PySem.W.keepIn X.K (.ref a) = true) (hb : KBn X.K fd ps n ks g gV)
    (l1 : s1.len = n) (l2 : s2.len = ks.length) (ha : PA X es (tDs X.K (evs C s1))) (hkw : PK X kws (tDs X.K (evs C s2)))
    (hall : (backToKw pos (keywordEach kws X.env)).all (·.1.isSome) = true) (hks : (backToKw pos (keywordEach kws X.env)).filterMap (·.1) = ks) (hl1 : es.length = n) (hl2 : kws.length = ks.length)
    (hdb : (f == ("__debug__" : Str)) = false) (he : ∀ e r, es = e :: r → starEach (e :: r) X.env = (false, eval e X.env) :: starEach r X.env)
    (hpl : (backTo pos (starEach es X.env)).any (·.1) = false) (hpk : (backToKw pos (keywordEach kws X.env)).any (·.1.isNone) = false) :
    PE X (.Call (.Name f p) es kws pos) (fun σ H Q => tDs X.K (evs C s1) σ H fun vs H1 => tDs X.K (evs C s2) σ H1 fun zs H2 => vs.length = n ∧ zs.length = ks.length ∧ spF X.K C.call f (gV vs zs) H2 Q E0) := by
  refine ⟨fun pins s σ H Q I h => ?_⟩
  refine wpAny_Call_Name_kw (ld_glob I hg hm ?_ hdb)
  have nil1 : es = [] → ∀ {P : List V → Hp → Prop}, tDs X.K (evs C s1) σ H P → P [] H := fun z P ⟨b, ρ, F1, ad, q1, ρa, B, R, ea, hq⟩ => by
    have z1 : s1 = .nil := by
      cases s1 with
      | nil => rfl
      | cons x y => rw [z] at hl1; rw [← hl1] at l1; simp [Exs.len] at l1
    subst z1
    cases ea
    exact hq [] H F1 R (Same.refl _) .nil
  have nil2 : kws = [] → ∀ {P : List V → Hp → Prop} {H : Hp}, tDs X.K (evs C s2) σ H P → P [] H := fun z P H ⟨b, ρ, F1, ad, q1, ρa, B, R, ea, hq⟩ => by
    have z1 : s2 = .nil := by
      cases s2 with
      | nil => rfl
      | cons x y => rw [z] at hl2; rw [← hl2] at l2; simp [Exs.len] at l2
    subst z1
    cases ea
    exact hq [] H F1 R (Same.refl _) .nil
  have ks0 : kws = [] → ks = [] := fun z => by
    rw [z] at hl2
    exact List.eq_nil_of_length_eq_zero hl2.symm
  cases es with
  | nil =>
    have h := nil1 rfl h
    cases kws with
    | nil =>
      obtain rfl := ks0 rfl
      obtain ⟨z1, z2, q⟩ := nil2 rfl h
      refine PySem.W.callWith_K0 I.kIn hk ?_
      exact FnG.called (us := []) (ws := []) F quiet hr hb I .nil .nil z1 z2 q
    | cons kw kws =>
      refine PySem.W.callWith_KW0 (h₀ := X.base) I.ok.mod.kin hk hall (thn (hkw.run pos pins s σ H _ I h) fun ws s2' ⟨zs, H2, I2, rz, l1, l2, q2⟩ => ⟨I2.kIn, ?_⟩) (by rw [hpl, Bool.false_or]; exact hpk)
      rw [hks]
      exact FnG.called (us := []) F quiet hr hb I2 .nil rz l1 l2 q2
  | cons e es =>
    have he' := he e es rfl
    cases kws with
    | nil =>
      obtain rfl := ks0 rfl
      have hp2 : (backTo pos (starEach es X.env)).any (·.1) = false := by
        rw [he'] at hpl
        simpa [backTo] using hpl
      refine PySem.W.callWith_K (h₀ := X.base) I.ok.mod.kin hk (thn (ha.run pos pins s σ H _ I h) fun us s1' ⟨vs, H1, I1, r, q⟩ => ⟨I1.kIn, ?_⟩) he' hp2
      obtain ⟨z1, z2, q⟩ := nil2 rfl q
      exact FnG.called (ws := []) F quiet hr hb I1 r .nil z1 z2 q
    | cons kw kws =>
      refine PySem.W.callWith_KW (h₀ := X.base) I.ok.mod.kin hk hall (thn (ha.run pos pins s σ H _ I h) fun us s1' ⟨vs, H1, I1, r, q⟩ => ?_) (by rw [hpl, Bool.false_or]; exact hpk) he'
      refine thn (hkw.run pos pins s1' σ H1 _ I1 q) fun ws s2' ⟨zs, H2, I2, rz, l1, l2, q2⟩ => ⟨I2.kIn, ?_⟩
      rw [hks]
      exact FnG.called F quiet hr hb I2 r rz l1 l2 q2
/-- f(.., k = ..) -/
theorem snd_call {es : List Expr} {kws : List Keyword} (F : FnG X.prog X.w X.K X.mg X.base k a fd ps (spF X.K C.call f)) (quiet : X.A.guards = some []) (hr : Room k X.A) (hg : Gl X f) (hm : X.mg f = some (.ref a)) (hk : PySem.W.keepIn X.K (.ref a) = true) (hb : KBn X.K fd ps n ks g gV)
    (har : Arr n ks.length gV gr) (l1 : s1.len = n) (l2 : s2.len = ks.length) (ha : PA X es (tDs X.K (evs C s1))) (hkw : PK X kws (tDs X.K (evs C s2)))
    (hall : (backToKw pos (keywordEach kws X.env)).all (·.1.isSome) = true) (hks : (backToKw pos (keywordEach kws X.env)).filterMap (·.1) = ks) (hl1 : es.length = n) (hl2 : kws.length = ks.length)
    (hdb : (f == ("__debug__" : Str)) = false) (he : ∀ e r, es = e :: r → starEach (e :: r) X.env = (false, eval e X.env) :: starEach r X.env)
    (hpl : (backTo pos (starEach es X.env)).any (·.1) = false) (hpk : (backToKw pos (keywordEach kws X.env)).any (·.1.isNone) = false) :
    PE X (.Call (.Name f p) es kws pos) (tD X.K <| ev C <| .call f (s1.app s2) gr) :=
  (snd_callT F quiet hr hg hm hk hb l1 l2 ha hkw hall hks hl1 hl2 hdb he hpl hpk).imp fun σ H Q h => call_two har l1 l2 h
/-- f(e), e a new object that f may change -/
theorem snd_call1 {e : Expr} {se : Ex} (F : FnG X.prog X.w X.K X.mg X.base k a fd ps (spF X.K C.call f)) (quiet : X.A.guards = some []) (hr : Room k X.A) (hg : Gl X f) (hm : X.mg f = some (.ref a)) (hk : PySem.W.keepIn X.K (.ref a) = true) (hb : KBn X.K fd ps 1 [] g gV) (hgV : ∀ v, gV [v] [] = [v])
    (ha : PE X e (tD X.K <| ev C <| se)) (hdb : (f == ("__debug__" : Str)) = false) (he : starEach [e] X.env = [(false, eval e X.env)]) :
    PE X (.Call (.Name f p) [e] [] pos) (tD X.K <| ev C <| .call1 f se) := by
  refine ⟨fun pins s σ H Q I ⟨b, ρ, F0, ad, r, ρ', B, R, ee, h⟩ => ?_⟩
  simp only [ev] at ee
  split at ee
  · rename_i d ρ1 e1
    split at ee
    · rename_i r0 m0 ec
      cases ee
      refine wpAny_Call_Name_kw (ld_glob I hg hm ?_ hdb)
      refine PySem.W.callWith_K (h₀ := X.base) I.ok.mod.kin hk (thn ((pa_cons ha pa_nil he).run pos pins s σ H (fun vs H1 => vs.length = 1 ∧ spF X.K C.call f (gV vs []) H1 Q E0) I (.now B R e1 fun v H1 F1 R1 s1 x1 => ⟨rfl, ?_⟩)) fun us s1' ⟨vs, H1, I1, r, z1, q⟩ => ⟨I1.kIn, ?_⟩) he (by rfl)
      · rw [hgV]
        obtain ⟨a', rfl, hF, ob, hc, h0⟩ := x1
        refine ⟨F1, [d], _, _, R1.sub, ec, .inr ⟨a', [], d, [], m0, rfl, rfl, rfl, hF, ob, .nil, fun v H' F' s3 s4 fd old bo res => ?_⟩⟩
        have old' : ∀ c o, b.H0 c = some o → b.bo ≠ some c → H' c = some o := fun c o q n => old c o (R1.old c o q n) fun z => by
          cases z
          rw [h0] at q; cases q
        have cels : ∀ (i : Nat) (s : Sl) (x : D), ρ'[i]? = some s → s.cell = some x → H' (ad i) = H1 (ad i) := fun i s x q c => by
          obtain ⟨_, _, ob'⟩ := R1.cel i s x q c
          obtain ⟨o, ho⟩ := Ob.ex ob'
          rw [ho]
          exact old _ _ ho fun z => hc i s x q c (Option.some.inj z).symm
        have R' : Rl X.K b σ H' ρ' F' ad := by
          refine { sub := s4, f0 := R1.f0.trans s3, fd := fun c o q => ?_, old := old', dom := fun c q => ?_, len := R1.len, val := fun i x q => ?_, cel := fun i t x q c => ?_, inj := R1.inj, own := R1.own, bor := R1.bor }
          · rcases fd c o q with z | z
            · exact R1.fd c o z
            · exact .inr (R1.dom c z)
          · by_cases z : c = a'
            · subst z; exact h0
            · refine R1.dom c ?_
              cases w : H1 c with
              | none => rfl
              | some o => rw [old c o w fun y => z (Option.some.inj y).symm] at q; cases q
          · obtain ⟨u, q1, q2⟩ := R1.val i x q
            exact ⟨u, q1, q2.mono s3⟩
          · obtain ⟨q1, q2, q3⟩ := R1.cel i t x q c
            refine ⟨q1, ?_, q3.mono s3 fun o z => by rw [cels i t x q c]; exact z⟩
            cases w : F' (ad i) with
            | none => rfl
            | some o =>
              rcases fd _ _ w with z | z
              · rw [q2] at z; cases z
              · obtain ⟨o, ho⟩ := Ob.ex q3
                rw [z] at ho; cases ho
        refine h v H' F' R' (‹Same F0 F1›.trans s3) ?_
        cases r with
        | val d' => exact res
        | «at» j => exact res.elim
        | new d' =>
          obtain ⟨c, rfl, z1, z2, z3⟩ := res
          refine ⟨c, rfl, z1, z2, fun j t e' w ct z => ?_, R1.dom c z3⟩
          obtain ⟨_, _, ob'⟩ := R1.cel j t e' w ct
          obtain ⟨o, ho⟩ := Ob.ex ob'
          rw [z, z3] at ho; cases ho
      · exact FnG.called (ws := []) (zs := []) F quiet hr hb I1 r .nil z1 rfl q
    · cases ee
  · cases ee
end
end Z

set_option linter.all false
set_option autoImplicit false
set_option Elab.async false
set_option maxRecDepth 100000
/-! Z, part 14: statements. -/
namespace Z
open PySem PySem.Spec PyProof.Rows L2
/-- what is wanted behind a statement -/
def Wn (K : Frag) (b : Bs) (ρ' : Env) (F : Hp) (D : Ends) : Out → Prop
  | .nxt => ∀ σ' H' F' ad', Rl K b σ' H' ρ' F' ad' → Same F F' → D.nx σ' H'
  | .brk => ∀ σ' H' F' ad', Rl K b σ' H' ρ' F' ad' → Same F F' → D.bk σ' H'
  | .cnt => ∀ σ' H' F' ad', Rl K b σ' H' ρ' F' ad' → Same F F' → D.ct σ' H'
  | .ret r => ∀ v σ' H' F' ad', Rl K b σ' H' ρ' F' ad' → Same F F' → RvR K b σ' H' ρ' F' ad' v r → D.rt v H'
def tS (K : Frag) (f : Env → Option (Out × Env)) : TS := fun D σ H => ∃ b ρ F ad o ρ', BoOk b ∧ Rl K b σ H ρ F ad ∧ f ρ = some (o, ρ') ∧ Wn K b ρ' F D o
theorem Wn.same {K : Frag} {b : Bs} {ρ' : Env} {F G : Hp} {D : Ends} {o : Out} (s : Same F G) (h : Wn K b ρ' F D o) : Wn K b ρ' G D o := by
  cases o with
  | nxt => exact fun σ' H' F' ad' R s' => h σ' H' F' ad' R (s.trans s')
  | brk => exact fun σ' H' F' ad' R s' => h σ' H' F' ad' R (s.trans s')
  | cnt => exact fun σ' H' F' ad' R s' => h σ' H' F' ad' R (s.trans s')
  | ret r => exact fun v σ' H' F' ad' R s' x => h v σ' H' F' ad' R (s.trans s') x
theorem _root_.L2.PS.imp {X : Cx} {e : Stmt} {t t' : TS} (h : PS X e t) (i : ∀ D σ H, t' D σ H → t D σ H) : PS X e t' := ⟨fun pins s σ H D I q => h.run pins s σ H D I (i D σ H q)⟩
theorem _root_.L2.PSs.imp {X : Cx} {e : List Stmt} {t t' : TS} (h : PSs X e t) (i : ∀ D σ H, t' D σ H → t D σ H) : PSs X e t' := ⟨fun pins s σ H D I q => h.run pins s σ H D I (i D σ H q)⟩
theorem PS.case {X : Cx} {e : Stmt} {t : TS} (h : ∀ D σ H, t D σ H → ∃ t', PS X e t' ∧ t' D σ H) : PS X e t := ⟨fun pins s σ H D I q => by
  obtain ⟨t', h', q'⟩ := h D σ H q
  exact h'.run pins s σ H D I q'⟩
/-! ### targets of statements -/
def tgG (K : Frag) (f : D → Env → Option Env) : TG := fun v σ H Q => ∃ b ρ F ad d ρ', BoOk b ∧ Rl K b σ H ρ F ad ∧ Rp K F v d ∧ f d ρ = some ρ' ∧
  ∀ σ' H' F', Rl K b σ' H' ρ' F' ad → Same F F' → Q σ' H'
def tgGs (K : Frag) (f : List D → Env → Option Env) : TGs := fun vs σ H Q => ∃ b ρ F ad ds ρ', BoOk b ∧ Rl K b σ H ρ F ad ∧ Rps K F vs ds ∧ f ds ρ = some ρ' ∧
  ∀ σ' H' F', Rl K b σ' H' ρ' F' ad → Same F F' → Q σ' H'
section
variable {X : Cx} {C : Cf} {pos : Pos}
theorem snd_Gnm {i : Nat} {x : Str} (hN : X.N.Nodup) (hi : X.N[i]? = some x) (hx : Loc X.env.scope x) (hf : X.fn x = true ∨ X.env.scope.names.lookup x = some .local) : PG X (.Name x pos) (tgG X.K (gv C (.nm i))) :=
  (pg_name hN hi hx hf).imp fun v σ H Q ⟨b, ρ, F, ad, d, ρ', B, R, r, e, h⟩ => by
    simp only [gv] at e
    cases e
    exact h _ H F (R.setVal r) (Same.refl _)
theorem snd_Gnil : PGs X [] (tgGs X.K (gvs C .nil)) := pgs_nil.imp fun vs σ H Q ⟨b, ρ, F, ad, ds, ρ', B, R, r, e, h⟩ => by
  cases ds with
  | nil =>
    cases r
    simp only [gvs] at e
    cases e
    exact ⟨rfl, h σ H F R (Same.refl _)⟩
  | cons => simp [gvs] at e
theorem snd_Gcons {e : Expr} {es : List Expr} {g : Tg} {gs : Tgs} (h1 : PG X e (tgG X.K (gv C g))) (h2 : PGs X es (tgGs X.K (gvs C gs))) (hs : (assignEach (e :: es) X.env).map (·.2) = assign e X.env :: (assignEach es X.env).map (·.2)) :
    PGs X (e :: es) (tgGs X.K (gvs C (.cons g gs))) := (pgs_cons h1 h2 hs).imp fun vs σ H Q ⟨b, ρ, F, ad, ds, ρ', B, R, r, e, h⟩ => by
  cases ds with
  | nil => simp [gvs] at e
  | cons d ds =>
    cases r with
    | cons r1 r2 =>
      simp only [gvs] at e
      split at e
      · rename_i ρ1 e1
        refine ⟨_, _, rfl, b, ρ, F, ad, d, ρ1, B, R, r1, e1, fun σ1 H1 F1 R1 s1 => ?_⟩
        exact ⟨b, ρ1, F1, ad, ds, ρ', B, R1, r2.mono s1, e, fun σ2 H2 F2 R2 s2 => h σ2 H2 F2 R2 (s1.trans s2)⟩
      · cases e
theorem snd_Gtup {es : List Expr} {k : Nat} {gs : Tgs} (hc : X.calm = true) (h : PGs X es (tgGs X.K (gvs C gs))) (hn : (assignEach es X.env).length = gs.len) (hst : (assignEach es X.env).findIdx? (·.1) = none) :
    PG X (.Tuple es k pos) (tgG X.K (gv C (.tup gs))) := (pg_tup hc h hn hst).imp fun v σ H Q ⟨b, ρ, F, ad, d, ρ', B, R, r, e, h⟩ => by
  cases r with
  | @tup a xs ds q r =>
    simp only [gv] at e
    exact ⟨a, xs, rfl, Same.seqT R.sub q, by rw [r.length, gvs_len e], b, ρ, F, ad, ds, ρ', B, R, r, e, h⟩
  | _ => simp [gv] at e
theorem PSet.or {X : Cx} {t t' : TSet} (h : PSet X t) (h' : PSet X t') : PSet X (fun o i v H Q => t o i v H Q ∨ t' o i v H Q) := by
  intro pins s σ H o i v ov iv u Q I ro ri rv q
  rcases q with q | q
  · exact h pins s σ H o i v ov iv u Q I ro ri rv q
  · exact h' pins s σ H o i v ov iv u Q I ro ri rv q
theorem putv_ok {k : Nat} (hr : Room k X.A) {o kd d o' : D} (e : putv o kd d = some o') : ∃ t : TSet, PSet X t ∧ ∀ (b : Bs) (σ : St) (H : Hp) (ρ : Env) (F : Hp) (ad : Nat → Addr) (i : Nat) (s : Sl) (kv v : V) (Q : Hp → Prop), Rl X.K b σ H ρ F ad → ρ[i]? = some s → s.cell = some o → Rp X.K F kv kd → Rp X.K F v d →
    (∀ H', Rl X.K b σ H' (ρ.set i (s.to o')) F ad → Q H') → t (.ref (ad i)) kv v H Q := by
  unfold putv at e
  split at e
  · rename_i xs j
    obtain ⟨m, hm, rfl⟩ := Option.map_eq_some_iff.mp e
    refine ⟨_, set_list, fun b σ H ρ F ad i s kv v Q R hi hc hk hv h => ?_⟩
    cases hk
    obtain ⟨_, _, us, hu, ru⟩ := R.cel i s _ hi hc
    exact ⟨_, us, j, m, rfl, rfl, hu, by rw [ru.length, ← place_ix]; exact hm, h _ (R.put hi hc ⟨_, upd_same, ru.set hv m⟩)⟩
  · split at e
    · rename_i kvs j hz
      cases e
      refine ⟨_, PSet.or (set_dict (hu_of hr)) set_dE, fun b σ H ρ F ad i s kv v Q R hi hc hk hv h => ?_⟩
      cases hk
      rcases (R.cel i s _ hi hc).2.2 with ⟨us, hu, ru⟩ | ⟨od, us, hu, ru⟩
      · exact .inl ⟨_, _, rfl, DPut.k (k := Sum.inl j) hu (by rw [ru.length]; exact Nat.lt_trans hz.1 LL_lt), h _ (R.put hi hc (.inl ⟨_, upd_same, ru.put hv⟩))⟩
      · have hz2 := hz.2
        rw [keyed_of ru, Bool.not_true, Bool.or_false, List.isEmpty_iff] at hz2
        subst hz2
        cases ru
        exact .inr ⟨_, od, Sum.inl j, rfl, rfl, hu, h _ (R.put hi hc (.inl ⟨_, upd_same, .cons hv .nil⟩))⟩
    · cases e
  · split at e
    · rename_i kvs j hz
      cases e
      refine ⟨_, PSet.or (set_dict (hu_of hr)) set_dE, fun b σ H ρ F ad i s kv v Q R hi hc hk hv h => ?_⟩
      cases hk
      rcases (R.cel i s _ hi hc).2.2 with ⟨us, hu, ru⟩ | ⟨od, us, hu, ru⟩
      · exact .inl ⟨_, _, rfl, DPut.k (k := Sum.inr j) hu (by rw [ru.length]; exact Nat.lt_trans hz.1 LL_lt), h _ (R.put hi hc (.inl ⟨_, upd_same, ru.put hv⟩))⟩
      · have hz2 := hz.2
        rw [keyed_of ru, Bool.not_true, Bool.or_false, List.isEmpty_iff] at hz2
        subst hz2
        cases ru
        exact .inr ⟨_, od, Sum.inr j, rfl, rfl, hu, h _ (R.put hi hc (.inl ⟨_, upd_same, .cons hv .nil⟩))⟩
    · cases e
  · split at e
    · rename_i kvs ks hz
      cases e
      have hz2 := hz.2
      rw [Bool.and_eq_true] at hz2
      obtain ⟨kk, hkk⟩ := Option.isSome_iff_exists.mp hz2.1
      refine ⟨_, set_dN (by have := hr.un; omega), fun b σ H ρ F ad i s kv v Q R hi hc hk hv h => ?_⟩
      obtain ⟨c, rfl⟩ := nkT_ref hkk hk
      obtain ⟨us, g⟩ := atN_ob (R.cel i s _ hi hc).2.2 hz2.2
      exact ⟨F, ad i, c, us, kvs, _, kk, rfl, rfl, ⟨R.sub, g, hkk, hk⟩, by rw [g.1.length]; exact Nat.lt_trans hz.1 LL_lt, fun od => h _ (R.put hi hc (.inr ⟨od, _, upd_same, NRps.put hkk hk hv g.1⟩))⟩
    · cases e
  · cases e
theorem snd_Gsub {k : Nat} (hr : Room k X.A) {i : Nat} {x : Str} {px : Pos} {ke : Expr} {sk : Ex} (hN : X.N[i]? = some x) (hv : Vis X.env.scope x) (hd : (x == ("__debug__" : Str)) = false) (hcd : (x == ("__classdict__" : Str)) = false) (hk : PE X ke (tD X.K <| ev C <| sk))
    (ha : ∀ v, assign (.Subscript (.Name x px) ke pos) X.env v = (do
      let ov ← holding [v] (eval (.Name x px) X.env)
      let iv ← holding [v, ov] (eval ke X.env)
      standAt pos
      holding [v, ov, iv] (setItem ov iv v)
      release [v, ov, iv] [])) : PG X (.Subscript (.Name x px) ke pos) (tgG X.K (gv C (.sub i sk))) := ⟨fun pins s σ H v u Q I rv ⟨b, ρ, F, ad, d, ρ', B, R, r, e, h⟩ => by
  simp only [gv] at e
  split at e
  · rename_i s0 hs0
    split at e
    · rename_i o0 ho0
      split at e
      · rename_i kd ρ1 e1
        split at e
        · rename_i sl hsl
          split at e
          · rename_i o ho
            obtain ⟨o', eo, rfl⟩ := Option.map_eq_some_iff.mp e
            obtain ⟨t, ok, does⟩ := putv_ok (X := X) hr eo
            refine (pg_sub (pe_var hN hv hd hcd) hk ok ha).run pins s σ H v u Q I rv ?_
            obtain ⟨hw, _, _⟩ := R.cel i s0 o0 hs0 ho0
            exact ⟨_, hw, b, ρ, F, ad, .val kd, ρ1, B, R, e1, fun kv H1 F1 R1 s1 x1 =>
              does b σ H1 ρ1 F1 ad i sl kv v _ R1 hsl ho x1 (Rp.mono s1 r) fun H' R' => h σ H' F1 R' s1⟩
          · cases e
        · cases e
      · cases e
    · cases e
  · cases e⟩
/-! ### statements -/
theorem snd_snil : PSs X [] (tS X.K <| svs C <| .nil) := pss_nil.imp fun D σ H ⟨b, ρ, F, ad, o, ρ', B, R, e, h⟩ => by
  simp only [svs] at e
  cases e
  exact h σ H F ad R (Same.refl _)
theorem snd_scons {s : Stmt} {ss : List Stmt} {x : Sx} {xs : Sxs} (h1 : PS X s (tS X.K <| sv C <| x)) (h2 : PSs X ss (tS X.K <| svs C <| xs)) : PSs X (s :: ss) (tS X.K <| svs C <| .cons x xs) := (pss_cons h1 h2).imp fun D σ H ⟨b, ρ, F, ad, o, ρ', B, R, e, h⟩ => by
  simp only [svs] at e
  split at e
  · rename_i ρ1 e1
    refine ⟨b, ρ, F, ad, .nxt, ρ1, B, R, e1, fun σ1 H1 F1 ad1 R1 s1 => ?_⟩
    exact ⟨b, ρ1, F1, ad1, o, ρ', B, R1, e, h.same s1⟩
  · rename_i hn
    refine ⟨b, ρ, F, ad, o, ρ', B, R, e, ?_⟩
    cases o with
    | nxt => exact absurd e (hn _)
    | brk => exact h
    | cnt => exact h
    | ret r => exact h
theorem keep_ok {K : Frag} {b : Bs} {σ : St} {H : Hp} {ρ ρ' : Env} {F : Hp} {ad : Nat → Addr} {i : Nat} {r : RV} {v : V} (R : Rl K b σ H ρ F ad) (x : RvR K b σ H ρ F ad v r) (e : keep ρ i r = some ρ') :
    ∃ F' ad', Rl K b (σ.set i (some v)) H ρ' F' ad' ∧ Same F F' := by
  cases r with
  | val d => cases e; exact ⟨F, ad, R.setVal x, Same.refl _⟩
  | new d =>
    cases e
    obtain ⟨a, rfl, h1, h2, h3, h4⟩ := x
    exact ⟨F, _, R.setOwn h1 h2 h3 h4, Same.refl _⟩
  | «at» j =>
    unfold keep at e
    dsimp only at e
    split at e
    · rename_i d ρ1 e1
      cases e
      obtain ⟨F', R', s', p'⟩ := R.stl (r := .at j) x e1
      exact ⟨F', ad, R'.setVal p', s'⟩
    · cases e
theorem snd_set {i : Nat} {x : Str} {e : Expr} {se : Ex} {px : Pos} (hN : X.N.Nodup) (hi : X.N[i]? = some x) (hx : Loc X.env.scope x) (he : PE X e (tD X.K <| ev C <| se)) (hs : swapsWith e (some (.Name x px)) pos.line X.env = pure false) (hf : X.fn x = true ∨ X.env.scope.names.lookup x = some .local) :
    PS X (.Assign [.Name x px] e pos) (tS X.K <| sv C <| .set i se) := (ps_set hN hi hx he hs hf).imp fun D σ H ⟨b, ρ, F, ad, o, ρ', B, R, e, h⟩ => by
  simp only [sv] at e
  split at e
  · rename_i r ρ1 e1
    obtain ⟨ρ2, ek, eq⟩ := Option.map_eq_some_iff.mp e
    cases eq
    refine .now B R e1 fun v H1 F1 R1 s1 x1 => ?_
    obtain ⟨F', ad', R', s'⟩ := keep_ok R1 x1 ek
    exact h _ H1 F' ad' R' (s1.trans s')
  · cases e
theorem snd_asg {tg e : Expr} {g : Tg} {se : Ex} (he : PE X e (tD X.K <| ev C <| se)) (hg : PG X tg (tgG X.K (gv C g))) (hs : swapsWithSole [tg] e pos.line X.env = pure false) (hw : swappedStores [tg] e X.env = pure none) (h1 : (assignEach [tg] X.env).map (·.2) = [assign tg X.env]) :
    PS X (.Assign [tg] e pos) (tS X.K <| sv C <| .asg g se) := (ps_asg he hg hs hw h1).imp fun D σ H ⟨b, ρ, F, ad, o, ρ', B, R, e, h⟩ => by
  simp only [sv] at e
  split at e
  · rename_i r ρ1 e1
    split at e
    · rename_i d ρ2 e2
      obtain ⟨ρ3, ek, eq⟩ := Option.map_eq_some_iff.mp e
      cases eq
      refine .now B R e1 fun v H1 F1 R1 s1 x1 => ?_
      obtain ⟨F1', R1', s1', d1⟩ := R1.hold x1
      obtain ⟨F2, R2, s2, p2⟩ := R1'.stl d1 e2
      exact ⟨b, ρ2, F2, ad, d, _, B, R2, p2, ek, fun σ' H' F' R' s' => h σ' H' F' ad R' (s1.trans (s1'.trans (s2.trans s')))⟩
    · cases e
  · cases e
theorem setAll_len : ∀ {is : List Nat} {rs : List RV} {ρ ρ' : Env}, setAll ρ is rs = some ρ' → rs.length = is.length
  | [], [], _, _, _ => rfl
  | [], _ :: _, _, _, e => by simp [setAll] at e
  | _ :: _, [], _, _, e => by simp [setAll] at e
  | i :: is, r :: rs, ρ, ρ', e => by
    unfold setAll at e
    split at e
    · exact congrArg Nat.succ (setAll_len e)
    · cases e
theorem setAll_ok {K : Frag} {b : Bs} {H : Hp} {F : Hp} {ad : Nat → Addr} : ∀ {is : List Nat} {ds : List D} {vs : List V} {σ : St} {ρ ρ' : Env}, Rl K b σ H ρ F ad → Rps K F vs ds → setAll ρ is (ds.map .val) = some ρ' →
    Rl K b ((is.zip vs).foldl (fun σ p => σ.set p.1 (some p.2)) σ) H ρ' F ad
  | [], [], _, σ, ρ, ρ', R, .nil, e => by simp [setAll] at e; subst e; exact R
  | [], _ :: _, _, _, _, _, _, _, e => by simp [setAll] at e
  | _ :: _, [], _, _, _, _, _, _, e => by simp [setAll] at e
  | i :: is, d :: ds, v :: vs, σ, ρ, ρ', R, .cons x xs, e => by
    simp only [List.map_cons, setAll, keep] at e
    exact setAll_ok (is := is) (σ := σ.set i (some v)) (R.setVal x) xs e
theorem snd_par {es : List Expr} {ses : Exs} {is : List Nat} {st : Stmt} {tp : (TA → TS)} (ha : PA X es (tDs X.K (evs C ses))) (hk : PA X es (tDk X.K (evs C ses))) (hp : ∀ {ta : TA}, PA X es ta → PS X st (tp ta))
    (ht : ∀ (ta : TA) (D : Ends) (σ : St) (H : Hp), (ta σ H fun vs H1 => vs.length = is.length ∧ D.nx ((is.zip vs).foldl (fun σ p => σ.set p.1 (some p.2)) σ) H1) → tp ta D σ H) : PS X st (tS X.K <| sv C <| .par is ses) := PS.case fun D σ H ⟨b, ρ, F, ad, o, ρ', B, R, e, h⟩ => by
  simp only [sv] at e
  split at e
  · rename_i rs ρ1 e1
    split at e
    · rename_i hn
      obtain ⟨ρ3, ek, eq⟩ := Option.map_eq_some_iff.mp e
      cases eq
      refine ⟨_, hp hk, ht _ D σ H ⟨b, ρ, F, ad, rs, ρ1, B, R, e1, fun vs H1 F1 R1 s1 x1 => ?_⟩⟩
      obtain ⟨ad', R2⟩ := live_set R1 x1 hn ek
      exact ⟨x1.length.trans (setAll_len ek), h _ H1 F1 ad' R2 s1⟩
    · split at e
      · rename_i ds ρ2 e2 e3
        obtain ⟨ρ3, ek, eq⟩ := Option.map_eq_some_iff.mp e
        cases eq
        refine ⟨_, hp ha, ht _ D σ H ⟨b, ρ, F, ad, rs, ρ1, B, R, e1, fun vs H1 F1 R1 s1 x1 => ?_⟩⟩
        obtain ⟨F2, R2, s2, p2⟩ := R1.stls x1 e2 e3
        have hl := setAll_len ek
        rw [List.length_map] at hl
        exact ⟨p2.length.trans hl, h _ H1 F2 ad (setAll_ok R2 p2 ek) (s1.trans s2)⟩
      · cases e
  · cases e
theorem snd_expr {e : Expr} {se : Ex} (he : PE X e (tD X.K <| ev C <| se)) (hs : swapsWith e none pos.line X.env = pure false) : PS X (.Expr e pos) (tS X.K <| sv C <| .ex se) := (ps_expr he hs).imp fun D σ H ⟨b, ρ, F, ad, o, ρ', B, R, e, h⟩ => by
  simp only [sv] at e
  split at e
  · rename_i r ρ1 e1
    cases e
    exact .now B R e1 fun v H1 F1 R1 s1 x1 => h σ H1 F1 ad R1 s1
  · cases e
theorem snd_ret {e : Expr} {se : Ex} (he : PE X e (tD X.K <| ev C <| se)) : PS X (.Return (some e) pos) (tS X.K <| sv C <| .ret se) := (ps_ret he).imp fun D σ H ⟨b, ρ, F, ad, o, ρ', B, R, e, h⟩ => by
  simp only [sv] at e
  split at e
  · rename_i r ρ1 e1
    cases e
    exact .now B R e1 fun v H1 F1 R1 s1 x1 => h v σ H1 F1 ad R1 s1 x1
  · cases e
theorem snd_retN : PS X (.Return none pos) (tS X.K <| sv C <| .retN) := ps_retN.imp fun D σ H ⟨b, ρ, F, ad, o, ρ', B, R, e, h⟩ => by
  simp only [sv] at e
  cases e
  exact h _ σ H F ad R (Same.refl _) .non
theorem snd_pass : PS X (.Pass pos) (tS X.K <| sv C <| .pass) := ps_pass.imp fun D σ H ⟨b, ρ, F, ad, o, ρ', B, R, e, h⟩ => by
  simp only [sv] at e
  cases e
  exact h σ H F ad R (Same.refl _)
theorem snd_brk : PS X (.Break pos) (tS X.K <| sv C <| .brk) := ps_break.imp fun D σ H ⟨b, ρ, F, ad, o, ρ', B, R, e, h⟩ => by
  simp only [sv] at e
  cases e
  exact h σ H F ad R (Same.refl _)
theorem snd_cnt : PS X (.Continue pos) (tS X.K <| sv C <| .cnt) := ps_continue.imp fun D σ H ⟨b, ρ, F, ad, o, ρ', B, R, e, h⟩ => by
  simp only [sv] at e
  cases e
  exact h σ H F ad R (Same.refl _)
theorem snd_never {st : Stmt} : PS X st (tS X.K <| sv C <| .never) := ⟨fun pins s σ H D I ⟨b, ρ, F, ad, o, ρ', B, R, e, h⟩ => by simp only [sv] at e; cases e⟩
theorem snd_if {c : Expr} {a b : List Stmt} {sc : Tx} {sa sb : Sxs} (hc : PT X c (tDt X.K (tv C sc))) (ha : PSs X a (tS X.K <| svs C <| sa)) (hb : PSs X b (tS X.K <| svs C <| sb)) : PS X (.If c a b pos) (tS X.K <| sv C <| .ife sc sa sb) := (ps_if hc ha hb).imp fun D σ H ⟨b, ρ, F, ad, o, ρ', B, R, e, h⟩ => by
  simp only [sv] at e
  split at e
  · rename_i ρ1 e1
    refine ⟨b, ρ, F, ad, true, ρ1, B, R, e1, fun H1 F1 R1 s1 => iteT ?_⟩
    exact ⟨b, ρ1, F1, ad, o, ρ', B, R1, e, h.same s1⟩
  · rename_i ρ1 e1
    refine ⟨b, ρ, F, ad, false, ρ1, B, R, e1, fun H1 F1 R1 s1 => iteF ?_⟩
    exact ⟨b, ρ1, F1, ad, o, ρ', B, R1, e, h.same s1⟩
  · cases e
theorem snd_while {c : Expr} {body : List Stmt} {sc : Tx} {sb : Sxs} (hp : PassesOwn (model X.prog X.w) X.A X.env X.xe) (hc : PT X c (tDt X.K (tv C sc))) (hb : PSs X body (tS X.K <| svs C <| sb)) : PS X (.While c body [] pos) (tS X.K <| sv C <| .whl sc sb) := (ps_while hp hc hb).imp fun D σ H ⟨b, ρ, F, ad, o, ρ', B, R, e, h⟩ => by
  simp only [sv] at e
  refine ⟨fun n σ H => ∃ ρ F1 ad, Rl X.K b σ H ρ F1 ad ∧ Same F F1 ∧ whlF (tv C sc) (svs C sb) n ρ = some (o, ρ'), ⟨C.W, ρ, F, ad, R, Same.refl _, e⟩, ?_⟩
  rintro n σ1 H1 ⟨ρ1, F1, ad1, R1, s1, e1⟩
  cases n with
  | zero => cases e1
  | succ n =>
    unfold whlF at e1
    split at e1
    · cases e1
    · rename_i ρ2 e2
      cases e1
      exact ⟨b, ρ1, F1, ad1, false, _, B, R1, e2, fun H2 F2 R2 s2 => iteF (h σ1 H2 F2 ad1 R2 (s1.trans s2))⟩
    · rename_i ρ2 e2
      refine ⟨b, ρ1, F1, ad1, true, ρ2, B, R1, e2, fun H2 F2 R2 s2 => iteT ?_⟩
      refine ⟨fun σ' H' => ∃ ρ F1 ad, Rl X.K b σ' H' ρ F1 ad ∧ Same F F1 ∧ whlF (tv C sc) (svs C sb) n ρ = some (o, ρ'), fun σ' H' q => ⟨n, Nat.lt_succ_self n, q⟩, ?_⟩
      split at e1
      · cases e1
      · rename_i ρ3 e3
        exact ⟨b, ρ2, F2, ad1, .nxt, ρ3, B, R2, e3, fun σ' H' F' ad' R' s' => ⟨ρ3, F', ad', R', s1.trans (s2.trans s'), e1⟩⟩
      · rename_i ρ3 e3
        exact ⟨b, ρ2, F2, ad1, .cnt, ρ3, B, R2, e3, fun σ' H' F' ad' R' s' => ⟨ρ3, F', ad', R', s1.trans (s2.trans s'), e1⟩⟩
      · rename_i ρ3 e3
        cases e1
        exact ⟨b, ρ2, F2, ad1, .brk, _, B, R2, e3, fun σ' H' F' ad' R' s' => h σ' H' F' ad' R' (s1.trans (s2.trans s'))⟩
      · rename_i r ρ3 e3
        cases e1
        exact ⟨b, ρ2, F2, ad1, .ret r, _, B, R2, e3, fun v σ' H' F' ad' R' s' x => h v σ' H' F' ad' R' (s1.trans (s2.trans s')) x⟩
theorem snd_for {tg iter : Expr} {body : List Stmt} {g : Tg} {it : It} {sb : Sxs} (hp : PassesOwn (model X.prog X.w) X.A X.env X.xe) (hc : X.calm = true) (hi : PI X tg iter (tDi X.K (itv C it))) (hg : PG X tg (tgG X.K (gv C g))) (hb : PSs X body (tS X.K <| svs C <| sb))
    (hs : ∀ x, foldedSetIterable iter X.env x = pure x) : PS X (.For tg iter body [] pos) (tS X.K <| sv C <| .for_ g it sb) := (ps_for hp hc hi hg hb hs).imp fun D σ H ⟨b, ρ, F, ad, o, ρ', B, R, e, h⟩ => by
  simp only [sv] at e
  split at e
  · rename_i ds rs ρ1 e1
    split at e
    · rename_i ρ2 e2
      obtain ⟨us, eu⟩ : ∃ us, rds ρ1 rs = some us := rds_of e2
      refine ⟨b, ρ, F, ad, ds, rs, us, ρ1, B, R, e1, eu, fun J vs H1 F1 R1 s1 hv wk => ?_⟩
      obtain ⟨F2, R2, s2, p2⟩ := R1.stls hv eu e2
      refine ⟨fun i m σ H => m = ds.length - i ∧ i ≤ ds.length ∧ ∃ ρ F3 ad, Rl X.K b σ H ρ F3 ad ∧ Same F2 F3 ∧ forF (gv C g) (svs C sb) (ds.drop i) ρ = some (o, ρ'), ⟨ds.length, by simp, Nat.zero_le _, ρ2, F2, ad, R2, Same.refl _, e⟩, ?_⟩
      rintro i m σ3 H3 ⟨rfl, hi, ρ3, F3, ad3, R3, s3, e3⟩
      have lk : Lks X.K F3 H3 vs us := lks_of (p2.mono s3) R3.sub
      by_cases hlt : i < ds.length
      · have hd : ds[i]? = some ds[i] := List.getElem?_eq_getElem hlt
        rw [List.drop_eq_getElem_cons hlt] at e3
        unfold forF at e3
        split at e3
        · cases e3
        · rename_i ρg eg
          refine .inr ⟨wk.go i F3 H3 hlt (s2.trans s3) R3.sub lk, fun σ H => ∃ ρ F4 ad, Rl X.K b σ H ρ F4 ad ∧ Same F2 F4 ∧ forF (gv C g) (svs C sb) (ds.drop (i + 1)) ρ = some (o, ρ'), fun σ' H' q => ⟨ds.length - (i + 1), by omega, rfl, hlt, q⟩, fun x H4 hy => ?_⟩
          obtain ⟨F4, R4, s4, x4⟩ : ∃ F4, Rl X.K b σ3 H4 ρ3 F4 ad3 ∧ Same F3 F4 ∧ Rp X.K F4 x ds[i] := by
            rcases wk.yld i F3 H3 x H4 _ hd (s2.trans s3) R3.sub lk hy with ⟨rfl, rx⟩ | ⟨p, xs, es, rfl, hp, rfl, ed, rx⟩
            · exact ⟨F3, R3, Same.refl _, rx⟩
            · obtain ⟨R', s'⟩ := (R3.alloc (o := .tup xs) hp).keepNew upd_same (R3.free hp) (R3.dom p hp) (R3.celN hp)
              refine ⟨_, R', s', ?_⟩
              rw [ed]
              exact .tup (.of upd_same) (rx.mono s')
          refine ⟨b, ρ3, F4, ad3, ds[i], ρg, B, R4, x4, eg, fun σ5 H5 F5 R5 s5 => ?_⟩
          have ss : Same F2 F5 := s3.trans (s4.trans s5)
          split at e3
          · cases e3
          · rename_i ρ6 e6
            exact ⟨b, ρg, F5, ad3, .nxt, ρ6, B, R5, e6, fun σ' H' F' ad' R' s' => ⟨ρ6, F', ad', R', ss.trans s', e3⟩⟩
          · rename_i ρ6 e6
            exact ⟨b, ρg, F5, ad3, .cnt, ρ6, B, R5, e6, fun σ' H' F' ad' R' s' => ⟨ρ6, F', ad', R', ss.trans s', e3⟩⟩
          · rename_i ρ6 e6
            cases e3
            exact ⟨b, ρg, F5, ad3, .brk, _, B, R5, e6, fun σ' H' F' ad' R' s' => h σ' H' F' ad' R' (s1.trans (s2.trans (ss.trans s')))⟩
          · rename_i r ρ6 e6
            cases e3
            exact ⟨b, ρg, F5, ad3, .ret r, _, B, R5, e6, fun v σ' H' F' ad' R' s' x => h v σ' H' F' ad' R' (s1.trans (s2.trans (ss.trans s'))) x⟩
      · have hi' : i = ds.length := by omega
        subst hi'
        rw [List.drop_length] at e3
        unfold forF at e3
        cases e3
        exact .inl ⟨wk.stop F3 H3 (s2.trans s3) R3.sub lk, h σ3 H3 F3 ad3 R3 (s1.trans (s2.trans s3))⟩
    · cases e
  · cases e
where
  rds_of : ∀ {rs : List RV} {ρ ρ2 : Env}, stls ρ rs = some ρ2 → ∃ us, rds ρ rs = some us
    | [], ρ, ρ2, _ => ⟨[], rfl⟩
    | r :: rs, ρ, ρ2, e => by
      unfold stls at e
      cases q : stl ρ r with
      | none => rw [q] at e; cases e
      | some p =>
        obtain ⟨d, ρ1⟩ := p
        rw [q] at e
        obtain ⟨us, hu⟩ := rds_of e
        rw [Rl.stls.rds_stl q rs] at hu
        exact ⟨d :: us, by unfold rds; rw [stl_rd q, hu]⟩
  lks_of {F H : Hp} : ∀ {vs : List V} {us : List D}, Rps X.K F vs us → Same F H → Lks X.K F H vs us
    | _, [], .nil, _ => trivial
    | _, _ :: _, .cons x xs, s => ⟨Lk.of s x, lks_of xs s⟩
end
end Z

set_option linter.all false
set_option autoImplicit false
set_option Elab.async false
set_option maxRecDepth 100000
/-! Z, part 14b: an answer that is told anew, and then changed inside. -/
namespace Z
open PySem PySem.Spec PyProof.Rows L2
section
variable {K : Frag} {F H H0 G : Hp}
open Classical in
/-- facts without lists -/
noncomputable def noL (F : Hp) : Hp := fun a => if ∃ xs, F a = some (.lst xs) then none else F a
theorem noL_same : Same (noL F) F := fun a o e => by
  unfold noL at e
  split at e
  · cases e
  · exact e
theorem noL_lst {a : Addr} {xs : List V} : noL F a ≠ some (.lst xs) := fun e => by
  unfold noL at e
  split at e
  · cases e
  · rename_i h; exact h ⟨xs, e⟩
theorem noL_of {a : Addr} {o : HO} (e : F a = some o) (h : ∀ xs, o ≠ .lst xs) : noL F a = some o := by
  unfold noL
  rw [if_neg fun ⟨xs, z⟩ => h xs (Option.some.inj (e.symm.trans z))]
  exact e
mutual
theorem Rp.bare : ∀ {d : D} {v : V}, d.bare = true → Rp K F v d → Rp K (noL F) v d
  | .non, _, _, .non => .non
  | .bl _, _, _, .bl _ => .bl _
  | .int _, _, _, .int _ => .int _
  | .str _, _, _, .str _ => .str _
  | .tup ds, _, h, .tup q r => by
    refine .tup ?_ (Rps.bare (by simpa [D.bare] using h) r)
    rcases q with q | q
    · rcases q with q | ⟨o, q⟩
      · exact .inl (.inl (noL_of q fun _ z => nomatch z))
      · exact .inl (.inr ⟨o, noL_of q fun _ z => nomatch z⟩)
    · exact .inr q
  | .lst _, _, h, _ => by simp [D.bare] at h
  | .dic _, _, h, _ => by simp [D.bare] at h
  | .scr _, _, h, _ => by simp [D.bare] at h
theorem Rps.bare : ∀ {ds : List D} {vs : List V}, D.bares ds = true → Rps K F vs ds → Rps K (noL F) vs ds
  | [], _, _, .nil => .nil
  | d :: ds, _, h, .cons q r => by
    rw [D.bares, Bool.and_eq_true] at h
    exact .cons (Rp.bare h.1 q) (Rps.bare h.2 r)
end
theorem Lk.bare {v : V} {d : D} (h : d.bare = true) (x : Lk K F H v d) : Rp K F v d := by
  cases d with
  | non => obtain rfl := x; exact .non
  | bl b => obtain rfl := x; exact .bl _
  | int i => obtain rfl := x; exact .int _
  | str s => obtain rfl := x; exact .str _
  | tup ds => obtain ⟨a, xs, rfl, q, r⟩ := x; exact .tup q r
  | _ => simp [D.bare] at h
theorem Lks.bare : ∀ {ds : List D} {vs : List V}, D.bares ds = true → Lks K F H vs ds → Rps K F vs ds
  | [], [], _, _ => .nil
  | [], _ :: _, _, h => h.elim
  | _ :: _, [], _, h => h.elim
  | d :: ds, v :: vs, h, x => by
    rw [D.bares, Bool.and_eq_true] at h
    exact .cons (Lk.bare h.1 x.1) (Lks.bare h.2 x.2)
/-! ### a list on a path -/
def Sk (K : Frag) (H0 H : Hp) (m : Nat) : V → List Nat → Prop
  | v, [] => ∃ a xs, v = .ref a ∧ H a = some (.lst xs) ∧ H0 a = none ∧ xs.length + m < sizeLine
  | v, i :: p => ∃ a xs u, v = .ref a ∧ ((H a = some (.lst xs) ∧ H0 a = none ∧ xs.length + m < sizeLine) ∨ SqT K H a xs) ∧ xs[i]? = some u ∧ Sk K H0 H m u p
theorem Sk.upd {m : Nat} {b : Addr} {us : List V} {w : V} (hb : H b = some (.lst us)) : ∀ {p : List Nat} {v : V}, Sk K H0 H (m + 1) v p → Sk K H0 (upd H b (.lst (us ++ [w]))) m v p
  | [], v, ⟨a, xs, e, h1, h2, h3⟩ => by
    by_cases z : a = b
    · subst z
      rw [hb] at h1
      cases h1
      exact ⟨a, _, e, upd_same, h2, by rw [List.length_append]; show us.length + 1 + m < _; omega⟩
    · exact ⟨a, xs, e, by rw [upd_ne z]; exact h1, h2, by omega⟩
  | i :: p, v, ⟨a, xs, u, e, h1, h2, h3⟩ => by
    have ih := Sk.upd hb h3 (w := w)
    rcases h1 with ⟨h1, h4, h5⟩ | h1
    · by_cases z : a = b
      · subst z
        rw [hb] at h1
        cases h1
        have hi : i < us.length := (List.getElem?_eq_some_iff.mp h2).1
        exact ⟨a, _, u, e, .inl ⟨upd_same, h4, by rw [List.length_append]; show us.length + 1 + m < _; omega⟩, by rw [List.getElem?_append_left hi]; exact h2, ih⟩
      · exact ⟨a, xs, u, e, .inl ⟨by rw [upd_ne z]; exact h1, h4, by omega⟩, h2, ih⟩
    · refine ⟨a, xs, u, e, .inr ?_, h2, ih⟩
      rcases h1 with h1 | h1
      · rcases h1 with h1 | ⟨o, h1⟩
        · exact .inl (.inl (by rw [upd_ne fun z => by subst z; rw [hb] at h1; cases h1]; exact h1))
        · exact .inl (.inr ⟨o, by rw [upd_ne fun z => by subst z; rw [hb] at h1; cases h1]; exact h1⟩)
      · exact .inr h1
theorem LL_slack {n : Nat} (h : n < LL) : n + 100 < sizeLine := by
  have e := sizeLine_eq
  have : LL = 16000000 := rfl
  omega
/-- what a call has told: its lists are new -/
theorem sk_of {F' : Hp} (sub : Same F' H) (fd : ∀ a o, F' a = some o → noL F a = some o ∨ H0 a = none) : ∀ {p : List Nat} {d : D} {v : V}, skD d p = true → Rp K F' v d → Sk K H0 H 100 v p
  | [], d, v, h, r => by
    cases d with
    | lst ds =>
      cases r with
      | @lst a xs _ q r =>
        refine ⟨a, xs, rfl, sub _ _ q, ?_, by rw [r.length]; exact LL_slack (by simpa [skD] using h)⟩
        rcases fd _ _ q with z | z
        · exact absurd z noL_lst
        · exact z
    | _ => simp [skD] at h
  | i :: p, d, v, h, r => by
    cases d with
    | lst ds =>
      rw [skD, Bool.and_eq_true, decide_eq_true_eq] at h
      obtain ⟨h1, h2⟩ := h
      split at h2
      · rename_i d' e
        cases r with
        | @lst a xs _ q r =>
          obtain ⟨u, e1, r1⟩ := r.get e
          refine ⟨a, xs, u, rfl, .inl ⟨sub _ _ q, ?_, by rw [r.length]; exact LL_slack h1⟩, e1, sk_of sub fd h2 r1⟩
          rcases fd _ _ q with z | z
          · exact absurd z noL_lst
          · exact z
      · cases h2
    | tup ds =>
      have h2 := h
      rw [skD] at h2
      split at h2
      · rename_i d' e
        cases r with
        | @tup a xs _ q r =>
          obtain ⟨u, e1, r1⟩ := r.get e
          exact ⟨a, xs, u, rfl, .inr (Same.seqT sub q), e1, sk_of sub fd h2 r1⟩
      · cases h2
    | _ => simp [skD] at h
theorem sk_new {F' : Hp} (sub : Same F' H) (fd : ∀ a o, F' a = some o → noL F a = some o ∨ H0 a = none) {p : List Nat} {d : D} {a : Addr} (h : skD d p = true) (ob : Ob K F' H a d) (h0 : H0 a = none) : Sk K H0 H 100 (.ref a) p := by
  cases d with
  | lst ds =>
    obtain ⟨xs, q, r⟩ := ob
    cases p with
    | nil => exact ⟨a, xs, rfl, q, h0, by rw [r.length]; exact LL_slack (by simpa [skD] using h)⟩
    | cons i p =>
      rw [skD, Bool.and_eq_true, decide_eq_true_eq] at h
      obtain ⟨h1, h2⟩ := h
      split at h2
      · rename_i d' e
        obtain ⟨u, e1, r1⟩ := r.get e
        exact ⟨a, xs, u, rfl, .inl ⟨q, h0, by rw [r.length]; exact LL_slack h1⟩, e1, sk_of sub fd h2 r1⟩
      · cases h2
  | _ => cases p <;> simp [skD] at h <;> exact ob.elim
/-- a walk on a path -/
def Wlk (K : Frag) (H : Hp) : V → List Nat → V → Prop
  | v, [], u => u = v
  | v, i :: p, u => ∃ a xs w, v = .ref a ∧ (SqL K H a xs ∨ SqT K H a xs) ∧ xs[i]? = some w ∧ Wlk K H w p u
theorem Wlk.snoc {i : Nat} {u : V} : ∀ {p : List Nat} {v : V}, Wlk K H v (p ++ [i]) u → ∃ w a xs, Wlk K H v p w ∧ w = .ref a ∧ (SqL K H a xs ∨ SqT K H a xs) ∧ xs[i]? = some u
  | [], v, ⟨a, xs, w, e, h1, h2, h3⟩ => ⟨v, a, xs, rfl, e, h1, by obtain rfl := h3; exact h2⟩
  | j :: p, v, ⟨a, xs, w, e, h1, h2, h3⟩ => by
    obtain ⟨z, b, ys, q1, q2, q3, q4⟩ := Wlk.snoc (p := p) h3
    exact ⟨z, b, ys, ⟨a, xs, w, e, h1, h2, q1⟩, q2, q3, q4⟩
theorem Sk.walk {m : Nat} : ∀ {p : List Nat} {v : V}, Sk K H0 H m v p → ∃ u, Wlk K H v p u ∧ Sk K H0 H m u []
  | [], v, h => ⟨v, rfl, h⟩
  | i :: p, v, ⟨a, xs, w, e, h1, h2, h3⟩ => by
    obtain ⟨u, q1, q2⟩ := Sk.walk h3
    refine ⟨u, ⟨a, xs, w, e, ?_, h2, q1⟩, q2⟩
    rcases h1 with h1 | h1
    · exact .inl (.inl (.inl h1.1))
    · exact .inr h1
end
/-! ### written paths -/
inductive PathE (x : Str) : Expr → List Nat → Prop
  | nm (p : Pos) : PathE x (.Name x p) []
  | ix {a : Expr} {q : List Nat} (i : Nat) (j : Nat) (cp p : Pos) : PathE x a q → PathE x (.Subscript a (.Constant (.int (i : Int)) j cp) p) (q ++ [i])
section
variable {X : Cx} {C : Cf} {i : Nat} {x : Str}
theorem pe_path (hN : X.N[i]? = some x) (hv : Vis X.env.scope x) (hd : (x == ("__debug__" : Str)) = false) (hcd : (x == ("__classdict__" : Str)) = false) : ∀ {e : Expr} {p : List Nat}, PathE x e p → PE X e (fun σ H Q => ∃ v u, σ[i]? = some (some v) ∧ Wlk X.K H v p u ∧ Q u H) := by
  intro e p h
  induction h with
  | nm p => exact (pe_var hN hv hd hcd).imp fun σ H Q ⟨v, u, e, w, q⟩ => ⟨v, e, by obtain rfl := w; exact q⟩
  | @ix a q n j cp p h ih =>
    refine (pe_ix (IxR.or ix_list ix_tup) ih pe_int (fun _ _ => rfl)).imp fun σ H Q ⟨v, u, e, w, hq⟩ => ?_
    obtain ⟨z, b, ys, q1, q2, q3, q4⟩ := w.snoc
    refine ⟨v, z, e, q1, ?_⟩
    have at_ : atI ys (n : Int) = some u := by
      have hn : n < ys.length := (List.getElem?_eq_some_iff.mp q4).1
      unfold atI
      rw [← place_ix]
      unfold place
      rw [if_pos (by omega), if_pos (by omega), Int.toNat_natCast]
      exact q4
    rcases q3 with q3 | q3
    · exact .inl ⟨b, ys, n, u, q2, rfl, q3, at_, hq⟩
    · exact .inr ⟨b, ys, n, u, q2, rfl, q3, at_, hq⟩
theorem PathE.base {e : Expr} {p : List Nat} (h : PathE x e p) (nm : Str) (env : PySem.Env) : attributeBase e nm env (eval e env) = eval e env := by cases h <;> rfl
theorem PathE.ns {e : Expr} {p : List Nat} (h : PathE x e p) : True := trivial
/-- path.append(None) -/
inductive AppS (x : Str) : Stmt → List Nat → Prop
  | mk {a : Expr} {p : List Nat} {ap cp np sp : Pos} {j : Nat} : PathE x a p → (ap.endLine == cp.line) = true → AppS x (.Expr (.Call (.Attribute a "append" ap) [.Constant .none j np] [] cp) sp) p
inductive AppSs (x : Str) : List Stmt → List (List Nat) → Prop
  | nil : AppSs x [] []
  | cons {s : Stmt} {ss : List Stmt} {p : List Nat} {ps : List (List Nat)} : AppS x s p → AppSs x ss ps → AppSs x (s :: ss) (p :: ps)
/-- what is changed was not there -/
structure Chg (H0 H H' : Hp) : Prop where
  old : ∀ a o, H0 a = some o → H a = some o → H' a = some o
  dom : ∀ a, H' a = none → H a = none
theorem apps_ok {rest : List Stmt} {tr : TS} (hN : X.N[i]? = some x) (hv : Vis X.env.scope x) (hd : (x == ("__debug__" : Str)) = false) (hcd : (x == ("__classdict__" : Str)) = false) (hr : PSs X rest tr) : ∀ {ss : List Stmt} {ps : List (List Nat)}, AppSs x ss ps →
    PSs X (ss ++ rest) (fun D σ H => ∃ H0 v m, σ[i]? = some (some v) ∧ (∀ p ∈ ps, Sk X.K H0 H m v p) ∧ ps.length ≤ m ∧ ∀ H', Chg H0 H H' → tr D σ H') := by
  intro ss ps h
  induction h with
  | nil => exact hr.imp fun D σ H ⟨H0, v, m, e, _, _, h⟩ => h H ⟨fun _ _ _ z => z, fun _ z => z⟩
  | @cons s ss p ps h hs ih =>
    cases h with
    | @mk a _ ap cp np sp j hp hl =>
      refine (pss_cons (ps_expr (pe_bm PySem.F.plainAttrs_list PySem.F.slot_list_append PySem.F.type_list_append mt_append (pe_path hN hv hd hcd hp) (pa_cons pe_non pa_nil (by rfl)) (hp.base _ _) (by rfl) hl (by rfl) (by rfl)) (by rfl)) ih).imp fun D σ H ⟨H0, v, m, e, sk, hm, h⟩ => ?_
      obtain ⟨u, w, ⟨b, us, rfl, q1, q2, q3⟩⟩ := (sk p List.mem_cons_self).walk
      obtain ⟨m, rfl⟩ : ∃ k, m = k + 1 := ⟨m - 1, by rw [List.length_cons] at hm; omega⟩
      refine ⟨v, .ref b, e, w, .inl ⟨rfl, _, .inl (.inl q1)⟩, b, us, .non, rfl, rfl, q1, by omega, H0, v, m, e, fun p hp => (sk p (List.mem_cons_of_mem _ hp)).upd q1, by rw [List.length_cons] at hm; omega, fun H' c => h H' ⟨fun a o z1 z2 => c.old a o z1 ?_, fun a z => ?_⟩⟩
      · rw [upd_ne fun y => by subst y; rw [q2] at z1; cases z1]
        exact z2
      · have := c.dom a z
        by_cases y : a = b
        · subst y; rw [upd_same] at this; cases this
        · rw [upd_ne y] at this; exact this
/-- behind it: the slot is nothing, the others stand -/
theorem Rl.spoiled {K : Frag} {b : Bs} {σ : St} {H H' : Hp} {ρ : Env} {F : Hp} {ad : Nat → Addr} (R : Rl K b σ H ρ F ad) (old : ∀ a o, H a = some o → H' a = some o) (i : Nat) (v : Option V) : Rl K b (σ.set i v) H' (ρ.set i .no) F ad := by
  have R1 : Rl K b σ H' ρ F ad := R.called (Same.refl _) (fun a o e => old a o (R.sub a o e)) (fun a o e => .inl e) old
  refine R1.sub_env (by rw [List.length_set, List.length_set]; exact R.len) fun j s e => ?_
  by_cases z : i = j
  · subst z
    left
    by_cases hi : i < ρ.length
    · rw [List.getElem?_set_self hi] at e; exact (Option.some.inj e).symm
    · rw [List.getElem?_eq_none (by rw [List.length_set]; omega)] at e; cases e
  · rw [List.getElem?_set_ne z] at e
    exact .inr ⟨e, fun w q => by rw [List.getElem?_set_ne z]; exact q⟩
variable {k n : Nat} {a : Addr} {fd : FuncData} {ps ks : List Str} {f : Str} {p : Pos} {g : List Value → List Value → List Value} {gV : List V → List V → List V} {gr : List (Nat ⊕ D)} {s1 s2 : Exs} {pos px pa : Pos}
theorem spoil_at {es : Exs} {pp : List (List Nat)} {ρ ρ' : Env} {o : Out} {xs : Sxs} (e : svs C (.cons (.spoil i f es gr pp) xs) ρ = some (o, ρ')) : ∃ rs ρ1 qs ds r d, evs C es ρ = some (rs, ρ1) ∧ arrange rs gr = some qs ∧ rds ρ1 qs = some ds ∧ C.call f ds = some (r, none) ∧ (r = .new d ∨ r = .val d) ∧
    D.bares ds = true ∧ pp.all (skD d) = true ∧ pp.length ≤ 100 ∧ i < ρ1.length ∧ svs C xs (ρ1.set i .no) = some (o, ρ') := by
  rw [svs] at e
  have hne : ∀ ρ', sv C (.spoil i f es gr pp) ρ ≠ some (.brk, ρ') ∧ True := fun _ => ⟨fun z => by
    simp only [sv] at z
    repeat' (split at z)
    all_goals first | cases z | skip, trivial⟩
  simp only [sv] at e
  split at e
  · rename_i ρ2 e0
    split at e0
    · rename_i rs ρ1 e1
      split at e0
      · rename_i qs e2
        split at e0
        · rename_i ds e3
          split at e0
          · rename_i d e4
            split at e0
            · rename_i hc
              cases e0
              simp only [Bool.and_eq_true, decide_eq_true_eq] at hc
              exact ⟨rs, ρ1, qs, ds, _, d, e1, e2, e3, e4, .inl rfl, hc.1.1.1, hc.1.1.2, hc.1.2, hc.2, e⟩
            · cases e0
          · rename_i d e4
            split at e0
            · rename_i hc
              cases e0
              simp only [Bool.and_eq_true, decide_eq_true_eq] at hc
              exact ⟨rs, ρ1, qs, ds, _, d, e1, e2, e3, e4, .inr rfl, hc.1.1.1, hc.1.1.2, hc.1.2, hc.2, e⟩
            · cases e0
          · cases e0
        · cases e0
      · cases e0
    · cases e0
  · rename_i r hr
    exfalso
    repeat' (split at e)
    all_goals first | cases e | exact hr _ rfl | skip
    all_goals simp_all
theorem snd_spoil {es : List Expr} {kws : List Keyword} {apps rest : List Stmt} {pp : List (List Nat)} {xs : Sxs} (hN : X.N.Nodup) (hi : X.N[i]? = some x) (hx : Loc X.env.scope x) (hv : Vis X.env.scope x) (hd : (x == ("__debug__" : Str)) = false) (hcd : (x == ("__classdict__" : Str)) = false) (hf : X.fn x = true ∨ X.env.scope.names.lookup x = some .local)
    (hcall : PE X (.Call (.Name f p) es kws pos) (fun σ H Q => tDs X.K (evs C s1) σ H fun vs H1 => tDs X.K (evs C s2) σ H1 fun zs H2 => vs.length = n ∧ zs.length = ks.length ∧ spF X.K C.call f (gV vs zs) H2 Q E0))
    (har : Arr n ks.length gV gr) (l1 : s1.len = n) (l2 : s2.len = ks.length) (ha : AppSs x apps pp) (hr : PSs X rest (tS X.K (svs C xs))) :
    PSs X (.Assign [.Name x px] (.Call (.Name f p) es kws pos) pa :: (apps ++ rest)) (tS X.K (svs C (.cons (.spoil i f (s1.app s2) gr pp) xs))) :=
  (pss_cons (ps_set hN hi hx hcall (by rfl) hf) (apps_ok hi hv hd hcd hr ha)).imp fun D σ H ⟨b, ρ, F, ad, o, ρ', B, R, e, h⟩ => by
    obtain ⟨rs, ρ1, qs, ds, r, d, e1, e2, e3, e4, hrd, c1, c2, c3, c4, e5⟩ := spoil_at e
    obtain ⟨q1, q2, ρa, ea, eb, rfl⟩ := evs_app _ _ e1
    refine ⟨b, ρ, F, ad, q1, ρa, B, R, ea, fun vs H1 F1 R1 t1 x1 => ⟨b, ρa, F1, ad, q2, ρ1, B, R1, eb, fun zs H2 F2 R2 t2 x2 => ?_⟩⟩
    have k1 := (evs_len s1 ea).trans l1
    have k2 := (evs_len s2 eb).trans l2
    have lk := R2.looks (har X.K σ F2 vs zs q1 q2 qs k1 k2 (x1.mono t2) x2 e2) e3
    refine ⟨x1.length.trans k1, x2.length.trans k2, noL F2, ds, r, none, noL_same.trans R2.sub, e4, .inl ⟨rfl, Rps.bare c1 (Lks.bare c1 lk), fun v H' F' s3 s4 fd old bo res => ?_⟩⟩
    refine ⟨H2, v, 100, ?_, fun q hq => ?_, c3, fun H'' chg => ?_⟩
    · rw [List.getElem?_set_self (by rw [← R2.len]; exact c4)]
    · have hs := List.all_eq_true.mp c2 q hq
      rcases hrd with rfl | rfl
      · obtain ⟨a', rfl, z1, z2, z3⟩ := res
        exact sk_new s4 fd hs z2 z3
      · exact sk_of s4 fd hs res
    · exact ⟨b, ρ1.set i .no, F2, ad, o, ρ', B, R2.spoiled (fun a o z => chg.old a o z (old a o z fun y => nomatch y)) i (some v), e5, h.same (t1.trans t2)⟩
end
end Z

set_option linter.all false
set_option autoImplicit false
set_option Elab.async false
set_option maxRecDepth 100000
/-! Z, part 15: the translation of a def's text. -/
namespace Z
open PySem PySem.Spec PyProof.Rows L2
/-- a call's shape: f, how many values by place, the keywords' names; where the parameters' values come from; one: f(e) where e may be a new object that f changes -/
structure Shp where
  f : Str
  n : Nat
  ks : List Str
  gr : List (Nat ⊕ D)
  one : Bool
structure Tc where
  N : List Str
  sc : Scope
  st : List Str
  free : List Str
  cns : List (Str × D)
  shapes : List Shp
def Bf.every : List Bf := [.abs, .all, .any, .dict, .divmod, .int, .len, .list, .max, .min, .repr, .set, .sorted, .sum, .tuple]
def bfOf (x : Str) : Option Bf := Bf.every.find? fun b => decide (x = (b.str : Str))
def Ty.every : List Ty := [.int, .bool, .str, .list, .tuple, .dict]
def tyOf (x : Str) : Option Ty := Ty.every.find? fun b => decide (x = (b.nm : Str))
def mmOf (x : Str) : Option Mm := [Mm.append, .extend, .pop].find? fun b => decide (x = (b.str : Str))
def mtOf (x : Str) : Option Mt := [Mt.index, .get].find? fun b => decide (x = (b.str : Str))
def okName (x : Str) : Bool := !(x == ("__debug__" : Str)) && !(x == ("__classdict__" : Str)) && decide (x ≠ ("__name__" : Str))
def Tc.ix (T : Tc) (x : Str) : Option Nat := T.N.findIdx? fun y => decide (y = x)
/-- a name of the def's own, by its slot -/
def Tc.slot (T : Tc) (x : Str) : Option Nat := if okName x then (match T.sc.names.lookup x with
  | some .local => T.ix x
  | some .cell => T.ix x
  | some .free => T.ix x
  | _ => none) else none
def Tc.gl (T : Tc) (x : Str) : Bool := okName x && decide (T.sc.names.lookup x = some .globalImplicit)
/-- a name that may be stored -/
def Tc.lhs (T : Tc) (x : Str) : Option Nat := if decide (x ∈ T.st) && (decide (T.sc.names.lookup x = some .local) || decide (T.sc.names.lookup x = some .cell)) then T.ix x else none
structure Tr where
  E : Tc → Expr → Option Ex
  B : Tc → BoolOp → List Expr → Option Ex
  ES : Tc → List Expr → Option Exs
  KS : Tc → List Keyword → Option Exs
  O : Tc → Option Expr → Option Ox
  T : Tc → Expr → Option Tx
  TB : Tc → BoolOp → List Expr → Option Tx
  TS : Tc → List Expr → Option Txs
  I : Tc → Expr → Expr → Option It
  G : Tc → Expr → Option Tg
  GS : Tc → List Expr → Option Tgs
  S : Tc → Stmt → Option Sx
  SS : Tc → List Stmt → Option Sxs
def Tr.none : Tr := ⟨fun _ _ => .none, fun _ _ _ => .none, fun _ _ => .none, fun _ _ => .none, fun _ _ => .none, fun _ _ => .none, fun _ _ _ => .none, fun _ _ => .none, fun _ _ _ => .none, fun _ _ => .none, fun _ _ => .none, fun _ _ => .none, fun _ _ => .none⟩
namespace Tr
variable (R : Tr) (T : Tc)
def const : Const → Option Ex
  | .none => some (.cst .non)
  | .bool b => some (.cst (.bl b))
  | .int i => some (.cst (.int i))
  | .str s => some (.cst (.str s))
  | _ => .none
def name (x : Str) : Option Ex := match T.slot x with
  | some i => some (.var i)
  | .none => if T.gl x then (T.cns.lookup x).map fun d => .gl x d else .none
def few (f : Exs → Ex) (s : Option Exs) : Option Ex := s.bind fun s => if s.len ≤ 1000 then some (f s) else .none
def two (a b : Option Ex) (f : Ex → Ex → Ex) : Option Ex := a.bind fun x => b.bind fun y => some (f x y)
def isOp : CmpOp → Bool
  | .Is => true
  | .IsNot => true
  | _ => false
def cmp (a : Expr) : List CmpOp → List Expr → Option Ex
  | [.Is], [.Constant .none _ _] => (R.E T a).map .isN
  | [.IsNot], [.Constant .none _ _] => (R.E T a).map .ntN
  | [op], [b] => if isOp op || behindInMarks op b then .none else two (R.E T a) (R.E T b) (.cmp op)
  | [op, op2], [b, c] => if isOp op || isOp op2 || lastMarks [op, op2] [b, c] then .none else (R.E T a).bind fun x => (R.E T b).bind fun y => (R.E T c).bind fun z => some (.cmp2 op op2 x y z)
  | _, _ => .none
def subs (a : Expr) : Expr → Option Ex
  | .Slice .none .none (some (.UnaryOp .USub (.Constant (.int 1) _ _) _)) _ => (R.E T a).map .rev
  | .Slice lo hi .none _ => (R.E T a).bind fun x => (R.O T lo).bind fun l => (R.O T hi).bind fun h => some (.slc x l h)
  | .Slice _ _ (some _) _ => .none
  | i => two (R.E T a) (R.E T i) .idx
def tys : List Expr → Option (List Ty)
  | [] => some []
  | .Name x _ :: r => if T.gl x && decide (x ∈ T.free) then (tyOf x).bind fun t => (tys r).bind fun ts => some (t :: ts) else .none
  | _ => .none
def isin : List Expr → Option Ex
  | [e, .Name x p] => (R.E T e).bind fun s => (tys T [.Name x p]).bind fun ts => some (.isin s ts)
  | [e, .Tuple es _ _] => (R.E T e).bind fun s => (tys T es).bind fun ts => if ts ≠ [] ∧ ts.length ≤ 10 then some (.isin s ts) else .none
  | _ => .none
def kwNames : List Keyword → Option (List Str)
  | [] => some []
  | ⟨some x, _, _⟩ :: r => (kwNames r).map (x :: ·)
  | _ => .none
def isName : Expr → Bool
  | .Name _ _ => true
  | _ => false
def call1 (f : Str) : List Expr → List Keyword → Option Ex
  | [e], [] => if isName e then .none else (T.shapes.find? fun s => decide (s.f = f) && decide (s.n = 1) && decide (s.ks = []) && s.one).bind fun s => (R.E T e).map fun x => .call1 f x
  | _, _ => .none
def callD (f : Str) (es : List Expr) (kws : List Keyword) : Option Ex := (kwNames kws).bind fun ks => (T.shapes.find? fun s => decide (s.f = f) && decide (s.n = es.length) && decide (s.ks = ks)).bind fun s =>
  (R.ES T es).bind fun a => (R.KS T kws).bind fun b => some (.call f (a.app b) s.gr)
def call (f : Str) (es : List Expr) (kws : List Keyword) : Option Ex := if T.gl f then (if decide (f ∈ T.free) then (match es, kws with
    | _ :: _, [] => if f = ("isinstance" : Str) then isin R T es else (bfOf f).bind fun b => (R.ES T es).map fun s => .bf b s
    | _, _ => .none) else (match call1 R T f es kws with
      | some s => some s
      | .none => callD R T f es kws)) else .none
def methM (i : Nat) (mm : Mm) (es : List Expr) : Option Ex := match es with
    | [] => if mm = .pop then some (.mm .pop i .nil) else .none
    | e :: es => if (e :: es).length < 20 then (R.ES T (e :: es)).map fun s => .mm mm i s else .none
def methT (i : Nat) (mt : Mt) (es : List Expr) : Option Ex := match es with
    | [] => .none
    | e :: es => if (e :: es).length < 20 then (R.ES T (e :: es)).map fun s => .mt mt (.var i) s else .none
def meth (x m : Str) (ap cp : Pos) (es : List Expr) : Option Ex := if ap.endLine == cp.line then (T.slot x).bind fun i => (match mmOf m with
    | some mm => methM R T i mm es
    | .none => (mtOf m).bind fun mt => methT R T i mt es)
  else .none
def key : Option Expr → Option Ex
  | some (.Constant (.int i) _ _) => some (.cst (.int i))
  | some (.Constant (.str s) _ _) => some (.cst (.str s))
  | _ => .none
def pairs : List (Option Expr) → List Expr → Option (Exs × Exs)
  | [], [] => some (.nil, .nil)
  | k :: ks, v :: vs => (key k).bind fun a => (R.E T v).bind fun b => (pairs ks vs).bind fun p => some (.cons a p.1, .cons b p.2)
  | _, _ => .none
def dct (ks : List (Option Expr)) (vs : List Expr) : Option Ex := match ks, vs with
  | [], [] => some (.dct .nil .nil)
  | [some (.Tuple es k p)], [v] => two (R.E T (.Tuple es k p)) (R.E T v) .dctN
  | ks, vs => if ks ≠ [] ∧ ks.length ≤ 15 then (pairs R T ks vs).map fun p => .dct p.1 p.2 else .none
/-! an answer that is told anew, then changed inside -/
def pathOf (x : Str) : Expr → Option (List Nat)
  | .Name y _ => if y = x then some [] else .none
  | .Subscript a (.Constant (.int i) _ _) _ => if 0 ≤ i then (pathOf x a).map (· ++ [i.toNat]) else .none
  | _ => .none
def appOf (x : Str) : Stmt → Option (List Nat)
  | .Expr (.Call (.Attribute a m ap) [.Constant .none _ _] [] cp) _ => if m = ("append" : Str) ∧ (ap.endLine == cp.line) = true then pathOf x a else .none
  | _ => .none
def appsOf (x : Str) : List Stmt → List (List Nat) × List Stmt
  | [] => ([], [])
  | s :: ss => match appOf x s with
    | some p => (p :: (appsOf x ss).1, (appsOf x ss).2)
    | .none => ([], s :: ss)
def spoilD (i : Nat) (f : Str) (es : List Expr) (kws : List Keyword) (ps : List (List Nat)) : Option Sx := (kwNames kws).bind fun ks => (T.shapes.find? fun s => decide (s.f = f) && decide (s.n = es.length) && decide (s.ks = ks)).bind fun s =>
  (R.ES T es).bind fun a => (R.KS T kws).bind fun b => some (.spoil i f (a.app b) s.gr ps)
def spoil (s : Stmt) (ss : List Stmt) : Option Sx := match s with
  | .Assign [.Name x _] (.Call (.Name f _) es kws _) _ => if ((appsOf x ss).1.any fun p => !p.isEmpty) = true then (if T.gl f then (T.lhs x).bind fun i => (T.slot x).bind fun j => if i = j then spoilD R T i f es kws (appsOf x ss).1 else .none else .none) else .none
  | _ => .none
def behind (s : Stmt) (ss : List Stmt) : List Stmt := match s with
  | .Assign [.Name x _] _ _ => (appsOf x ss).2
  | _ => ss
/-- a comprehension's own names, by slots -/
def ownOf (scope : Scope) : List (Str × Nat) := scope.names.filterMap fun p => match p.2 with
  | .local => (T.ix p.1).map fun i => (p.1, i)
  | .cell => (T.ix p.1).map fun i => (p.1, i)
  | _ => .none
def blkT (scope : Scope) : Tc := { T with sc := relS scope T.sc, st := (ownOf T scope).map (·.1) }
/-- only names of the comprehension's own -/
def gOwn (own : List Nat) : Tg → Bool
  | .nm i => decide (i ∈ own)
  | .tup gs => gOwns own gs
  | .sub _ _ => false
where gOwns (own : List Nat) : Tgs → Bool
  | .nil => true
  | .cons g gs => gOwn own g && gOwns own gs
def noSet : Expr → Bool
  | .Set _ _ _ => false
  | _ => true
def comp (elt tg iter : Expr) (ifs : List Expr) (scope : Scope) : Option Ex :=
  if blkC T.N T.sc scope (ownOf T scope) && noSet iter && ((ownOf T scope).all fun p => decide (scope.names.lookup p.1 = some .cell) || decide ((relS scope T.sc).names.lookup p.1 = some .local)) then
    (R.I T tg iter).bind fun it => (R.G (blkT T scope) tg).bind fun g => if gOwn ((ownOf T scope).map (·.2)) g then (R.TS (blkT T scope) ifs).bind fun c => (R.E (blkT T scope) elt).bind fun e =>
      some (.comp e g it c ((ownOf T scope).map (·.2))) else .none
  else .none
def comp1 (elt : Expr) (gs : List Comprehension) (scope : Scope) : Option Ex := match gs with
  | [⟨tg, iter, ifs, 0⟩] => comp R T elt tg iter ifs scope
  | _ => .none
def dcomp (ke ve tg iter : Expr) (ifs : List Expr) (scope : Scope) : Option Ex :=
  if blkC T.N T.sc scope (ownOf T scope) && noSet iter && ((ownOf T scope).all fun p => decide (scope.names.lookup p.1 = some .cell) || decide ((relS scope T.sc).names.lookup p.1 = some .local)) then
    (R.I T tg iter).bind fun it => (R.G (blkT T scope) tg).bind fun g => if gOwn ((ownOf T scope).map (·.2)) g then (R.TS (blkT T scope) ifs).bind fun c => (R.E (blkT T scope) ke).bind fun k => (R.E (blkT T scope) ve).bind fun v =>
      some (.dcomp k v g it c ((ownOf T scope).map (·.2))) else .none
  else .none
def dcomp1 (ke ve : Expr) (gs : List Comprehension) (scope : Scope) : Option Ex := match gs with
  | [⟨tg, iter, ifs, 0⟩] => dcomp R T ke ve tg iter ifs scope
  | _ => .none
def plainT : Expr → Bool
  | .UnaryOp .Not _ _ => false
  | .BoolOp _ _ _ => false
  | .IfExp _ _ _ _ => false
  | .Compare _ _ _ _ => false
  | _ => true
/-- the names stored from behind, where the compiler does so -/
def swNames (sc : Scope) (ts vs : List Expr) : Option (List Str) :=
  if !(ts.length == 2 || ts.length == 3) || vs.length != ts.length then .none
  else if vs.any (fun | .Starred .. => true | _ => false) then .none
  else
    let line := (ts.head?.map (·.pos.line)).getD 0
    let names := ts.filterMap fun
      | .Name id pos => if sc.names.lookup id == some .local && pos.line == line then some id else .none
      | _ => .none
    if names.length != ts.length || names.eraseDups.length != names.length then .none
    else if vs.all (foldedForSure 8) then .none else some names
def par (ts vs : List Expr) (names : List Str) : Option Sx := match ts, vs, names with
  | [.Name x _, .Name y _], [a, b], [x', y'] => if x' = x ∧ y' = y ∧ x ≠ y ∧ T.sc.names.lookup x = some .local ∧ T.sc.names.lookup y = some .local then
      (T.lhs x).bind fun i => (T.lhs y).bind fun j => (R.ES T [a, b]).map fun s => .par [i, j] s else .none
  | [.Name x _, .Name y _, .Name z _], [a, b, c], [x', y', z'] => if x' = x ∧ y' = y ∧ z' = z ∧ x ≠ y ∧ x ≠ z ∧ y ≠ z ∧ T.sc.names.lookup x = some .local ∧ T.sc.names.lookup y = some .local ∧ T.sc.names.lookup z = some .local then
      (T.lhs x).bind fun i => (T.lhs y).bind fun j => (T.lhs z).bind fun l => (R.ES T [a, b, c]).map fun s => .par [i, j, l] s else .none
  | _, _, _ => .none
def isComp : Expr → Bool
  | .ListComp _ _ _ _ => true
  | .SetComp _ _ _ _ => true
  | .DictComp _ _ _ _ _ => true
  | _ => false
def asg (tg e : Expr) (line : Nat) : Option Sx := match tg, e with
  | .Name x p, .ListComp elt gs scope cp => if decide (T.sc.names.lookup x = some .local) && p.line == cp.line && !(scope.names.any fun (n, k) => n == x && (k == .local || k == .cell)) then
      (T.lhs x).bind fun i => (comp1 R T elt gs scope).map fun s => .set i s
    else if decide (T.sc.names.lookup x = some .cell) then (T.lhs x).bind fun i => (comp1 R T elt gs scope).map fun s => .set i s else .none
  | .Name x p, .DictComp ke ve gs scope cp => if decide (T.sc.names.lookup x = some .local) && p.line == cp.line && !(scope.names.any fun (n, k) => n == x && (k == .local || k == .cell)) then
      (T.lhs x).bind fun i => (dcomp1 R T ke ve gs scope).map fun s => .set i s else .none
  | .Name x p, e => if isComp e then .none else (T.lhs x).bind fun i => (R.E T e).map fun s => .set i s
  | .Tuple ts k p, .Tuple vs k2 p2 => (match swNames T.sc ts vs with
    | some names => if vs.all (constantsAlone 8) then .none else par R T ts vs names
    | .none => (R.G T (.Tuple ts k p)).bind fun g => (R.E T (.Tuple vs k2 p2)).map fun s => .asg g s)
  | .Tuple ts k p, e => if isComp e then .none else (R.G T (.Tuple ts k p)).bind fun g => (R.E T e).map fun s => .asg g s
  | .Subscript a b p, e => if isComp e then .none else (R.G T (.Subscript a b p)).bind fun g => (R.E T e).map fun s => .asg g s
  | _, _ => .none
def stm : Stmt → Option Sx
  | .Assign [tg] e p => asg R T tg e p.line
  | .Expr e _ => if isComp e then .none else (R.E T e).map .ex
  | .Return (some e) _ => (R.E T e).map .ret
  | .Return .none _ => some .retN
  | .If c a b _ => (R.T T c).bind fun x => (R.SS T a).bind fun y => (R.SS T b).bind fun z => some (.ife x y z)
  | .While c b [] _ => (R.T T c).bind fun x => (R.SS T b).bind fun y => some (.whl x y)
  | .For tg iter b [] _ => if noSet iter then (R.I T tg iter).bind fun it => (R.G T tg).bind fun g => (R.SS T b).bind fun y => some (.for_ g it y) else .none
  | .Pass _ => some .pass
  | .Break _ => some .brk
  | .Continue _ => some .cnt
  | .Raise _ _ _ => some .never
  | _ => .none
def isTup : Expr → Bool
  | .Tuple _ _ _ => true
  | _ => false
def itr (tg : Expr) : Expr → Option It
  | .Call (.Name f p) es [] q => if T.gl f && decide (f ∈ T.free) && decide (f = ("range" : Str)) then (match es with
      | [a] => (R.E T a).map .rng1
      | [a, b] => (R.E T a).bind fun x => (R.E T b).bind fun y => some (.rng2 x y)
      | [a, b, c] => (R.E T a).bind fun x => (R.E T b).bind fun y => (R.E T c).bind fun z => some (.rng3 x y z)
      | _ => .none)
    else if T.gl f && decide (f ∈ T.free) && decide (f = ("enumerate" : Str)) then (match es with
      | [a] => if isTup tg then (R.E T a).map .enum else .none
      | _ => .none)
    else if T.gl f && decide (f ∈ T.free) && decide (f = ("zip" : Str)) then (match es with
      | [a, b] => if isTup tg then (R.E T a).bind fun x => (R.E T b).bind fun y => some (.zip x y) else .none
      | _ => .none)
    else (R.E T (.Call (.Name f p) es [] q)).map .seq
  | e => (R.E T e).map .seq
def tgt : Expr → Option Tg
  | .Name x _ => (T.lhs x).map .nm
  | .Tuple ts _ _ => (R.GS T ts).map .tup
  | .Subscript (.Name x _) k _ => (T.slot x).bind fun i => (match k with
    | .Slice _ _ _ _ => .none
    | k => (R.E T k).map fun s => .sub i s)
  | _ => .none
def next : Tr where
  E := fun T e => match e with
    | .Constant c _ _ => const c
    | .Name x _ => name T x
    | .List es _ => few .lst (R.ES T es)
    | .Tuple es _ _ => few .tup (R.ES T es)
    | .Dict ks vs _ => dct R T ks vs
    | .BinOp a op b _ => two (R.E T a) (R.E T b) (.bin op)
    | .UnaryOp .USub a _ => (R.E T a).map .neg
    | .UnaryOp .Not a _ => (R.E T a).map .nt
    | .IfExp c a b _ => (R.T T c).bind fun t => two (R.E T a) (R.E T b) (.ife t)
    | .BoolOp op vs _ => R.B T op vs
    | .Compare a ops cs _ => cmp R T a ops cs
    | .Subscript a i _ => subs R T a i
    | .Call (.Name f _) es kws _ => call R T f es kws
    | .Call (.Attribute (.Name x _) m ap) es [] cp => meth R T x m ap cp es
    | .ListComp elt gs scope _ => comp1 R T elt gs scope
    | .DictComp ke ve gs scope _ => dcomp1 R T ke ve gs scope
    | _ => .none
  B := fun T op vs => match vs with
    | [a] => R.E T a
    | a :: b :: r => two (R.E T a) (R.B T op (b :: r)) (match op with
      | .And => .andv
      | .Or => .orv)
    | [] => .none
  ES := fun T es => match es with
    | [] => some .nil
    | e :: es => (R.E T e).bind fun x => (R.ES T es).bind fun xs => some (.cons x xs)
  KS := fun T es => match es with
    | [] => some .nil
    | ⟨_, e, _⟩ :: es => (R.E T e).bind fun x => (R.KS T es).bind fun xs => some (.cons x xs)
  O := fun T o => match o with
    | .none => some .no
    | some e => (R.E T e).map .one
  T := fun T e => match e with
    | .UnaryOp .Not a _ => (R.T T a).map .not
    | .BoolOp op vs _ => R.TB T op vs
    | .Compare a ops cs _ => (cmp R T a ops cs).map .val
    | e => if plainT e then (R.E T e).map .val else .none
  TB := fun T op vs => match vs with
    | [a] => R.T T a
    | a :: b :: r => (R.T T a).bind fun x => (R.TB T op (b :: r)).bind fun y => some (match op with
      | .And => .and x y
      | .Or => .or x y)
    | [] => .none
  TS := fun T es => match es with
    | [] => some .yes
    | [e] => (R.T T e).map .one
    | _ => .none
  I := itr R
  G := tgt R
  GS := fun T ts => match ts with
    | [] => some .nil
    | t :: ts => (R.G T t).bind fun x => (R.GS T ts).bind fun xs => some (.cons x xs)
  S := stm R
  SS := fun T ss => match ss with
    | [] => some .nil
    | s :: ss => (match spoil R T s ss with
      | some x => (R.SS T (behind s ss)).bind fun xs => some (.cons x xs)
      | .none => (R.S T s).bind fun x => (R.SS T ss).bind fun xs => some (.cons x xs))
end Tr
def tr : Nat → Tr
  | 0 => Tr.none
  | n + 1 => (tr n).next
end Z

set_option linter.all false
set_option autoImplicit false
set_option Elab.async false
set_option maxRecDepth 100000
/-! Z, part 16: what is translated does what the evaluator says. -/
namespace Z
open PySem PySem.Spec PyProof.Rows L2
def CallOk (X : Cx) (C : Cf) (k : Nat) (s : Shp) : Prop := ∃ (a : Addr) (fd : FuncData) (ps : List Str) (g : List Value → List Value → List Value) (gV : List V → List V → List V),
  X.mg s.f = some (.ref a) ∧ PySem.W.keepIn X.K (.ref a) = true ∧ FnG X.prog X.w X.K X.mg X.base k a fd ps (spF X.K C.call s.f) ∧ KBn X.K fd ps s.n s.ks g gV ∧ Arr s.n s.ks.length gV s.gr ∧ (s.one = true → ∀ v, gV [v] [] = [v])
structure Cxt (T : Tc) (C : Cf) (k : Nat) (X : Cx) : Prop where
  N : X.N = T.N
  sc : X.env.scope = T.sc
  nd : T.N.Nodup
  calm : X.calm = true
  kind : X.env.scope.kind = .function
  fn : ∀ x ∈ T.st, X.fn x = true ∨ X.env.scope.names.lookup x = some .local
  free : ∀ x ∈ T.free, X.mg x = none
  cns : ∀ x d, T.cns.lookup x = some d → ∃ u v, X.mg x = some u ∧ RelV v u ∧ ∀ F, Rp X.K F v d
  room : Room k X.A
  pass : PassesOwn (model X.prog X.w) X.A X.env X.xe
  calls : ∀ s ∈ T.shapes, CallOk X C k s
  gd : X.A.guards = some []
def noStar : Expr → Prop
  | .Starred _ _ => False
  | _ => True
/-- what is shown of a translation -/
structure Tr.Ok (R : Tr) : Prop where
  E : ∀ {T : Tc} {C : Cf} {k : Nat} {X : Cx}, Cxt T C k X → ∀ {e : Expr} {s : Ex}, R.E T e = some s → PE X e (tD X.K (ev C s)) ∧ noStar e
  B : ∀ {T : Tc} {C : Cf} {k : Nat} {X : Cx}, Cxt T C k X → ∀ {op : BoolOp} {vs : List Expr} {s : Ex}, R.B T op vs = some s → ∀ pos, PE X (.BoolOp op vs pos) (tD X.K (ev C s))
  ES : ∀ {T : Tc} {C : Cf} {k : Nat} {X : Cx}, Cxt T C k X → ∀ {es : List Expr} {s : Exs}, R.ES T es = some s → PA X es (tDs X.K (evs C s)) ∧ s.len = es.length ∧ (∀ e r, es = e :: r → starEach (e :: r) X.env = (false, eval e X.env) :: starEach r X.env) ∧ (starEach es X.env).any (·.1) = false
  ESk : ∀ {T : Tc} {C : Cf} {k : Nat} {X : Cx}, Cxt T C k X → ∀ {es : List Expr} {s : Exs}, R.ES T es = some s → PA X es (tDk X.K (evs C s))
  KS : ∀ {T : Tc} {C : Cf} {k : Nat} {X : Cx}, Cxt T C k X → ∀ {es : List Keyword} {s : Exs}, R.KS T es = some s → PK X es (tDs X.K (evs C s)) ∧ s.len = es.length
  O : ∀ {T : Tc} {C : Cf} {k : Nat} {X : Cx}, Cxt T C k X → ∀ {e : Option Expr} {s : Ox}, R.O T e = some s → PO X e (tDo X.K (evo C s))
  T : ∀ {T : Tc} {C : Cf} {k : Nat} {X : Cx}, Cxt T C k X → ∀ {e : Expr} {s : Tx}, R.T T e = some s → PT X e (tDt X.K (tv C s))
  TB : ∀ {T : Tc} {C : Cf} {k : Nat} {X : Cx}, Cxt T C k X → ∀ {op : BoolOp} {vs : List Expr} {s : Tx}, R.TB T op vs = some s → ∀ pos, PW X (.BoolOp op vs pos) (tDt X.K (tv C s))
  TS : ∀ {T : Tc} {C : Cf} {k : Nat} {X : Cx}, Cxt T C k X → ∀ {es : List Expr} {s : Txs}, R.TS T es = some s → PTs X es (tDt X.K (tvs C s))
  I : ∀ {T : Tc} {C : Cf} {k : Nat} {X : Cx}, Cxt T C k X → ∀ {tg e : Expr} {s : It}, R.I T tg e = some s → PI X tg e (tDi X.K (itv C s))
  G : ∀ {T : Tc} {C : Cf} {k : Nat} {X : Cx}, Cxt T C k X → ∀ {e : Expr} {s : Tg}, R.G T e = some s → PG X e (tgG X.K (gv C s)) ∧ (∀ own, Tr.gOwn own s = true → PG X e (tgN X.K (gv C s) own)) ∧ noStar e
  GS : ∀ {T : Tc} {C : Cf} {k : Nat} {X : Cx}, Cxt T C k X → ∀ {es : List Expr} {s : Tgs}, R.GS T es = some s → PGs X es (tgGs X.K (gvs C s)) ∧ (∀ own, Tr.gOwn.gOwns own s = true → PGs X es (tgNs X.K (gvs C s) own)) ∧ (assignEach es X.env).length = s.len ∧ (assignEach es X.env).findIdx? (·.1) = Option.none
  S : ∀ {T : Tc} {C : Cf} {k : Nat} {X : Cx}, Cxt T C k X → ∀ {e : Stmt} {s : Sx}, R.S T e = some s → PS X e (tS X.K (sv C s))
  SS : ∀ {T : Tc} {C : Cf} {k : Nat} {X : Cx}, Cxt T C k X → ∀ {es : List Stmt} {s : Sxs}, R.SS T es = some s → PSs X es (tS X.K (svs C s))
theorem Tr.none_ok : Tr.none.Ok where
  E := fun _ _ _ h => nomatch h
  B := fun _ _ _ _ h => nomatch h
  ES := fun _ _ _ h => nomatch h
  ESk := fun _ _ _ h => nomatch h
  KS := fun _ _ _ h => nomatch h
  O := fun _ _ _ h => nomatch h
  T := fun _ _ _ h => nomatch h
  TB := fun _ _ _ _ h => nomatch h
  TS := fun _ _ _ h => nomatch h
  I := fun _ _ _ _ h => nomatch h
  G := fun _ _ _ h => nomatch h
  GS := fun _ _ _ h => nomatch h
  S := fun _ _ _ h => nomatch h
  SS := fun _ _ _ h => nomatch h
theorem bind_some {α β : Type} {a : Option α} {f : α → Option β} {y : β} (h : a.bind f = some y) : ∃ x, a = some x ∧ f x = some y := by
  cases a with
  | none => cases h
  | some x => exact ⟨x, rfl, h⟩
theorem map_some {α β : Type} {a : Option α} {f : α → β} {y : β} (h : a.map f = some y) : ∃ x, a = some x ∧ f x = y := Option.map_eq_some_iff.mp h
theorem ite_some {α : Type} {c : Prop} [Decidable c] {a : Option α} {y : α} (h : (if c then a else Option.none) = some y) : c ∧ a = some y := by
  by_cases q : c
  · rw [if_pos q] at h; exact ⟨q, h⟩
  · rw [if_neg q] at h; cases h
theorem tyOf_eq {x : Str} {t : Ty} (h : tyOf x = some t) : x = (t.nm : Str) := by
  have q := List.find?_some (p := fun b : Ty => decide (x = (b.nm : Str))) h
  exact of_decide_eq_true q
theorem bfOf_eq {x : Str} {t : Bf} (h : bfOf x = some t) : x = (t.str : Str) := by
  have q := List.find?_some (p := fun b : Bf => decide (x = (b.str : Str))) h
  exact of_decide_eq_true q
theorem mmOf_eq {x : Str} {t : Mm} (h : mmOf x = some t) : x = (t.str : Str) ∧ t ∈ [Mm.append, .extend, .pop] := by
  have q := List.find?_some (p := fun b : Mm => decide (x = (b.str : Str))) h
  exact ⟨of_decide_eq_true q, List.mem_of_find?_eq_some (p := fun b : Mm => decide (x = (b.str : Str))) h⟩
theorem mtOf_eq {x : Str} {t : Mt} (h : mtOf x = some t) : x = (t.str : Str) ∧ t ∈ [Mt.index, .get] := by
  have q := List.find?_some (p := fun b : Mt => decide (x = (b.str : Str))) h
  exact ⟨of_decide_eq_true q, List.mem_of_find?_eq_some (p := fun b : Mt => decide (x = (b.str : Str))) h⟩
theorem star_cons {e : Expr} (h : noStar e) (r : List Expr) (env : PySem.Env) : starEach (e :: r) env = (false, eval e env) :: starEach r env := by
  cases e <;> first | rfl | exact h.elim
theorem asg_cons {e : Expr} (h : noStar e) (r : List Expr) (env : PySem.Env) : assignEach (e :: r) env = (false, assign e env) :: assignEach r env := by
  cases e <;> first | rfl | exact h.elim
section
variable {T : Tc} {C : Cf} {k : Nat} {X : Cx} (cx : Cxt T C k X)
include cx
theorem Cxt.ix {x : Str} {i : Nat} (h : T.ix x = some i) : X.N[i]? = some x := by
  rw [cx.N]
  unfold Tc.ix at h
  obtain ⟨hl, h1, _⟩ := List.findIdx?_eq_some_iff_getElem.mp h
  rw [List.getElem?_eq_getElem hl]
  have := of_decide_eq_true h1
  rw [this]
theorem Cxt.slot {x : Str} {i : Nat} (h : T.slot x = some i) : X.N[i]? = some x ∧ Vis X.env.scope x ∧ (x == ("__debug__" : Str)) = false ∧ (x == ("__classdict__" : Str)) = false := by
  unfold Tc.slot at h
  obtain ⟨ok, h⟩ := ite_some h
  unfold okName at ok
  simp only [Bool.and_eq_true, Bool.not_eq_true', decide_eq_true_eq] at ok
  unfold Vis
  rw [cx.sc]
  split at h
  · rename_i e; exact ⟨cx.ix h, .inl e, ok.1.1, ok.1.2⟩
  · rename_i e; exact ⟨cx.ix h, .inr (.inl e), ok.1.1, ok.1.2⟩
  · rename_i e; exact ⟨cx.ix h, .inr (.inr e), ok.1.1, ok.1.2⟩
  · cases h
theorem Cxt.gl {x : Str} (h : T.gl x = true) : Gl X x ∧ (x == ("__debug__" : Str)) = false ∧ x ≠ ("__name__" : Str) := by
  unfold Tc.gl at h
  rw [Bool.and_eq_true] at h
  obtain ⟨ok, h⟩ := h
  unfold okName at ok
  simp only [Bool.and_eq_true, Bool.not_eq_true', decide_eq_true_eq] at ok
  refine ⟨?_, ok.1.1, ok.2⟩
  show X.env.scope.names.lookup x = _
  rw [cx.sc]
  exact of_decide_eq_true h
theorem Cxt.lhs {x : Str} {i : Nat} (h : T.lhs x = some i) : X.N[i]? = some x ∧ L2.Loc X.env.scope x ∧ (X.fn x = true ∨ X.env.scope.names.lookup x = some .local) := by
  unfold Tc.lhs at h
  obtain ⟨ok, h⟩ := ite_some h
  simp only [Bool.and_eq_true, Bool.or_eq_true, decide_eq_true_eq] at ok
  refine ⟨cx.ix h, ?_, cx.fn x ok.1⟩
  unfold L2.Loc
  rw [cx.sc]
  exact ok.2
theorem Cxt.ndX : X.N.Nodup := by rw [cx.N]; exact cx.nd
variable {R : Tr} (ok : R.Ok)
include ok
theorem nx_name {x : Str} {s : Ex} {pos : Pos} (h : Tr.name T x = some s) : PE X (.Name x pos) (tD X.K (ev C s)) := by
  unfold Tr.name at h
  split at h
  · rename_i i hi
    cases h
    obtain ⟨h1, h2, h3, h4⟩ := cx.slot hi
    exact snd_var h1 h2 h3 h4
  · obtain ⟨hg, h⟩ := ite_some h
    obtain ⟨d, hd, rfl⟩ := map_some h
    obtain ⟨g1, g2, g3⟩ := cx.gl hg
    obtain ⟨u, v, m1, m2, m3⟩ := cx.cns x d hd
    exact snd_gl g1 m1 m2 g2 m3
theorem nx_few {es : List Expr} {f : Exs → Ex} {s : Ex} (h : Tr.few f (R.ES T es) = some s) : ∃ t, s = f t ∧ PA X es (tDs X.K (evs C t)) ∧ ∀ ρ rs ρ1, evs C t ρ = some (rs, ρ1) → rs.length ≤ LL := by
  unfold Tr.few at h
  obtain ⟨t, ht, h⟩ := bind_some h
  obtain ⟨hz, h⟩ := ite_some h
  cases h
  obtain ⟨h1, h2, _⟩ := ok.ES cx ht
  refine ⟨t, rfl, h1, fun ρ rs ρ1 e => ?_⟩
  rw [evs_len t e]
  exact Nat.le_trans hz (by decide)
theorem nx_two {a b : Expr} {f : Ex → Ex → Ex} {s : Ex} (h : Tr.two (R.E T a) (R.E T b) f = some s) : ∃ x y, s = f x y ∧ PE X a (tD X.K (ev C x)) ∧ PE X b (tD X.K (ev C y)) := by
  unfold Tr.two at h
  obtain ⟨x, hx, h⟩ := bind_some h
  obtain ⟨y, hy, h⟩ := bind_some h
  cases h
  exact ⟨x, y, rfl, (ok.E cx hx).1, (ok.E cx hy).1⟩
theorem nx_cmp {a : Expr} {ops : List CmpOp} {cs : List Expr} {s : Ex} {pos : Pos} (h : Tr.cmp R T a ops cs = some s) : PE X (.Compare a ops cs pos) (tD X.K (ev C s)) ∧ PT X (.Compare a ops cs pos) (tDt X.K (tv C (.val s))) := by
  unfold Tr.cmp at h
  split at h
  · obtain ⟨x, hx, rfl⟩ := map_some h
    exact ⟨snd_isN (ok.E cx hx).1, snd_tisN (ok.E cx hx).1⟩
  · obtain ⟨x, hx, rfl⟩ := map_some h
    exact ⟨snd_ntN (ok.E cx hx).1, snd_tntN (ok.E cx hx).1⟩
  · split at h
    · cases h
    · rename_i hn
      rw [Bool.or_eq_true, not_or] at hn
      obtain ⟨x, y, rfl, h1, h2⟩ := nx_two cx ok h
      have hm : behindInMarks _ _ = false := Bool.eq_false_iff.mpr hn.2
      exact ⟨snd_cmp cx.room h1 h2 hm, snd_tcmp cx.room h1 h2 hm⟩
  · split at h
    · cases h
    · rename_i hn
      rw [Bool.or_eq_true, not_or] at hn
      obtain ⟨x, hx, h⟩ := bind_some h
      obtain ⟨y, hy, h⟩ := bind_some h
      obtain ⟨z, hz, h⟩ := bind_some h
      cases h
      have hm : lastMarks _ _ = false := Bool.eq_false_iff.mpr hn.2
      exact ⟨snd_chain cx.room (ok.E cx hx).1 (ok.E cx hy).1 (ok.E cx hz).1 hm, snd_tchain cx.room (ok.E cx hx).1 (ok.E cx hy).1 (ok.E cx hz).1 hm⟩
  · cases h
theorem nx_subs {a i : Expr} {s : Ex} {pos : Pos} (h : Tr.subs R T a i = some s) : PE X (.Subscript a i pos) (tD X.K (ev C s)) := by
  unfold Tr.subs at h
  split at h
  · obtain ⟨x, hx, rfl⟩ := map_some h
    exact snd_rev (ok.E cx hx).1
  · obtain ⟨x, hx, h⟩ := bind_some h
    obtain ⟨l, hl, h⟩ := bind_some h
    obtain ⟨u, hu, h⟩ := bind_some h
    cases h
    exact snd_slc (ok.E cx hx).1 (ok.O cx hl) (ok.O cx hu)
  · cases h
  · rename_i n0 n1 n2
    obtain ⟨x, y, rfl, h1, h2⟩ := nx_two cx ok h
    have hp : PlainIx i := fun o iv => by
      cases i with
      | Slice lo hi st p => cases st with
        | none => exact absurd rfl (n1 lo hi p)
        | some v => exact absurd rfl (n2 lo hi v p)
      | _ => rfl
    exact snd_idx cx.room h1 h2 hp hp
theorem nx_tys : ∀ {es : List Expr} {ts : List Ty}, Tr.tys T es = some ts → TysOf X ts es
  | [], ts, h => by cases h; exact .nil
  | e :: r, ts, h => by
    unfold Tr.tys at h
    split at h
    · rename_i q; cases q
    · rename_i x p r' q
      cases q
      obtain ⟨hc, h⟩ := ite_some h
      obtain ⟨t, ht, h⟩ := bind_some h
      obtain ⟨ts', hts, h⟩ := bind_some h
      cases h
      rw [Bool.and_eq_true, decide_eq_true_eq] at hc
      have e1 := tyOf_eq ht
      subst e1
      obtain ⟨g1, g2, g3⟩ := cx.gl hc.1
      exact .cons g1 (cx.free _ hc.2) g3 g2 (nx_tys hts)
    · cases h
theorem nx_isin {es : List Expr} {s : Ex} {p pos : Pos} (hg : T.gl ("isinstance" : Str) = true) (hf : ("isinstance" : Str) ∈ T.free) (h : Tr.isin R T es = some s) : PE X (.Call (.Name "isinstance" p) es [] pos) (tD X.K (ev C s)) := by
  obtain ⟨g1, g2, g3⟩ := cx.gl hg
  unfold Tr.isin at h
  split at h
  · obtain ⟨x, hx, h⟩ := bind_some h
    obtain ⟨ts, hts, h⟩ := bind_some h
    cases h
    obtain ⟨e1, e2⟩ := ok.E cx hx
    have ht := nx_tys cx ok hts
    cases ht with
    | cons q1 q2 q3 q4 q5 =>
      cases q5
      exact snd_isin1 g1 (cx.free _ hf) e1 (.cons q1 q2 q3 q4 .nil) (star_cons e2 _ _)
  · obtain ⟨x, hx, h⟩ := bind_some h
    obtain ⟨ts, hts, h⟩ := bind_some h
    obtain ⟨hc, h⟩ := ite_some h
    cases h
    obtain ⟨e1, e2⟩ := ok.E cx hx
    exact snd_isin hc.1 hc.2 g1 (cx.free _ hf) e1 (nx_tys cx ok hts) (star_cons e2 _ _)
  · cases h
theorem kw_names {env : PySem.Env} {pos : Pos} : ∀ {kws : List Keyword} {ks : List Str}, Tr.kwNames kws = some ks → (backToKw pos (keywordEach kws env)).all (·.1.isSome) = true ∧ (backToKw pos (keywordEach kws env)).filterMap (·.1) = ks ∧ kws.length = ks.length ∧ (backToKw pos (keywordEach kws env)).any (·.1.isNone) = false
  | [], ks, h => by cases h; exact ⟨rfl, rfl, rfl, rfl⟩
  | ⟨some x, e, p⟩ :: r, ks, h => by
    unfold Tr.kwNames at h
    obtain ⟨ks', hk, rfl⟩ := map_some h
    obtain ⟨h1, h2, h3, h4⟩ := kw_names (env := env) (pos := pos) (kws := r) hk
    refine ⟨?_, ?_, congrArg Nat.succ h3, ?_⟩
    · show (true && (backToKw pos (keywordEach r env)).all (·.1.isSome)) = true
      rw [h1]; rfl
    · show x :: (backToKw pos (keywordEach r env)).filterMap (·.1) = x :: ks'
      rw [h2]
    · show (false || (backToKw pos (keywordEach r env)).any (·.1.isNone)) = false
      rw [h4]; rfl
  | ⟨none, e, p⟩ :: r, ks, h => by simp [Tr.kwNames] at h
theorem nx_callD {f : Str} {es : List Expr} {kws : List Keyword} {s : Ex} {p pos : Pos} (hg : T.gl f = true) (h : Tr.callD R T f es kws = some s) : PE X (.Call (.Name f p) es kws pos) (tD X.K (ev C s)) := by
  obtain ⟨g1, g2, g3⟩ := cx.gl hg
  unfold Tr.callD at h
  obtain ⟨ks, hks, h⟩ := bind_some h
  obtain ⟨sh, hsh, h⟩ := bind_some h
  obtain ⟨a, ha, h⟩ := bind_some h
  obtain ⟨b, hb, h⟩ := bind_some h
  cases h
  have q := List.find?_some hsh
  simp only [Bool.and_eq_true, decide_eq_true_eq] at q
  obtain ⟨⟨rfl, q2⟩, q3⟩ := q
  obtain ⟨ad, fd, ps, g, gV, c1, c2, c3, c4, c5, _⟩ := cx.calls sh (List.mem_of_find?_eq_some hsh)
  obtain ⟨e1, e2, e3, e4⟩ := ok.ES cx ha
  obtain ⟨k1, k2⟩ := ok.KS cx hb
  obtain ⟨n1, n2, n3, n4⟩ := kw_names cx ok (env := X.env) (pos := pos) hks
  rw [q2] at c4 c5
  rw [q3] at c4 c5
  exact snd_call c3 cx.gd cx.room g1 c1 c2 c4 c5 e2 (k2.trans n3) e1 k1 n1 n2 rfl n3 g2 e3 (by unfold backTo; simpa using e4) n4
theorem nx_call {f : Str} {es : List Expr} {kws : List Keyword} {s : Ex} {p pos : Pos} (h : Tr.call R T f es kws = some s) : PE X (.Call (.Name f p) es kws pos) (tD X.K (ev C s)) := by
  unfold Tr.call at h
  obtain ⟨hg, h⟩ := ite_some h
  obtain ⟨g1, g2, g3⟩ := cx.gl hg
  split at h
  · rename_i hf
    have hf := of_decide_eq_true hf
    split at h
    · rename_i e es'
      split at h
      · rename_i hi
        subst hi
        exact nx_isin cx ok hg hf h
      · obtain ⟨b, hb, h⟩ := bind_some h
        obtain ⟨ss, hs, rfl⟩ := map_some h
        have e1 := bfOf_eq hb
        subst e1
        obtain ⟨h1, h2, h3, h4⟩ := ok.ES cx hs
        have e0 := h3 _ _ rfl
        refine snd_bf cx.gd cx.room cx.calm g1 (cx.free _ hf) h1 g3 g2 e0 ?_
        rw [e0, List.any_cons, Bool.or_eq_false_iff] at h4
        unfold backTo
        simpa using h4.2
    · cases h
  · split at h
    · rename_i s1 hs1
      cases h
      unfold Tr.call1 at hs1
      split at hs1
      · rename_i e
        split at hs1
        · cases hs1
        · obtain ⟨sh, hsh, h⟩ := bind_some hs1
          obtain ⟨x, hx, rfl⟩ := map_some h
          have q := List.find?_some hsh
          simp only [Bool.and_eq_true, decide_eq_true_eq] at q
          obtain ⟨⟨⟨rfl, q2⟩, q3⟩, q4⟩ := q
          obtain ⟨ad, fd, ps, g, gV, c1, c2, c3, c4, c5, c6⟩ := cx.calls sh (List.mem_of_find?_eq_some hsh)
          obtain ⟨e1, e2⟩ := ok.E cx hx
          rw [q2, q3] at c4
          exact snd_call1 c3 cx.gd cx.room g1 c1 c2 c4 (c6 q4) e1 g2 (star_cons e2 _ _)
      · cases hs1
    · exact nx_callD cx ok hg h
theorem few_args {e : Expr} {es : List Expr} {ses : Exs} {cp : Pos} (hz : (e :: es).length < 20) (hs : R.ES T (e :: es) = some ses) : PA X (e :: es) (tDs X.K (evs C ses)) ∧ starEach (e :: es) X.env = (false, eval e X.env) :: starEach es X.env ∧ (backTo cp (starEach es X.env)).any (·.1) = false ∧
    ((backTo cp (starEach (e :: es) X.env)).all (fun x => !x.1) && (backToKw cp (keywordEach [] X.env)).all (fun x => x.1.isSome) && decide ((e :: es).length + ([] : List Keyword).length + (if ([] : List Keyword).isEmpty then 0 else 1) < 30)) = true := by
  obtain ⟨q1, q2, q3, q4⟩ := ok.ES cx hs
  have q5 := q3 e es rfl
  have q6 := q4
  rw [q5, List.any_cons, Bool.or_eq_false_iff] at q6
  refine ⟨q1, q5, by unfold backTo; simpa using q6.2, ?_⟩
  have a1 : (backTo cp (starEach (e :: es) X.env)).all (fun x => !x.1) = true := by
    unfold backTo
    simpa using q4
  rw [a1, Bool.true_and]
  have a2 : (backToKw cp (keywordEach [] X.env)).all (fun x => x.1.isSome) = true := rfl
  rw [a2, Bool.true_and]
  have : (e :: es).length + ([] : List Keyword).length + (if ([] : List Keyword).isEmpty then 0 else 1) < 30 := by
    show (e :: es).length + 0 + 0 < 30
    omega
  exact decide_eq_true this
theorem nx_meth {x m : Str} {px ap cp : Pos} {es : List Expr} {s : Ex} (h : Tr.meth R T x m ap cp es = some s) : PE X (.Call (.Attribute (.Name x px) m ap) es [] cp) (tD X.K (ev C s)) := by
  unfold Tr.meth at h
  obtain ⟨hl, ha⟩ := ite_some h
  obtain ⟨i, hi, hb⟩ := bind_some ha
  obtain ⟨h1, h2, h3, h4⟩ := cx.slot hi
  clear h ha
  split at hb
  · rename_i mm hm
    obtain ⟨e1, e2⟩ := mmOf_eq hm
    subst e1
    have e3 : mm = .append ∨ mm = .extend ∨ mm = .pop := by simpa using e2
    unfold Tr.methM at hb
    cases es with
    | nil =>
      dsimp only at hb
      obtain ⟨rfl, h⟩ := ite_some hb
      cases h
      exact snd_mm0 h1 h2 h3 h4 rfl hl
    | cons e es =>
      dsimp only at hb
      obtain ⟨hz, h⟩ := ite_some hb
      obtain ⟨ss, hs, rfl⟩ := map_some h
      obtain ⟨q1, q5, q6, q7⟩ := few_args cx ok (cp := cp) hz hs
      exact snd_mm h1 h2 h3 h4 e3 q1 hl q5 q6 q7
  · obtain ⟨mt, hm, hc⟩ := bind_some hb
    obtain ⟨e1, e2⟩ := mtOf_eq hm
    subst e1
    have e3 : mt = .index ∨ mt = .get := by simpa using e2
    unfold Tr.methT at hc
    cases es with
    | nil => cases hc
    | cons e es =>
      dsimp only at hc
      obtain ⟨hz, h⟩ := ite_some hc
      obtain ⟨ss, hs, rfl⟩ := map_some h
      obtain ⟨q1, q5, q6, q7⟩ := few_args cx ok (cp := cp) hz hs
      exact snd_mt cx.room e3 (snd_var h1 h2 h3 h4) q1 (by rfl) hl q5 q6 q7
theorem nx_pairs : ∀ {ks : List (Option Expr)} {vs : List Expr} {p : Exs × Exs} {pos : Pos}, Tr.pairs R T ks vs = some p → PPs X pos ks vs (trsOf X.K C p.1 p.2) ∧ ks.all (·.isSome) = true ∧ ks.length = vs.length
  | [], [], p, pos, h => by cases h; exact ⟨pps_nil, rfl, rfl⟩
  | [], _ :: _, p, pos, h => by simp [Tr.pairs] at h
  | _ :: _, [], p, pos, h => by simp [Tr.pairs] at h
  | k :: ks, v :: vs, p, pos, h => by
    unfold Tr.pairs at h
    obtain ⟨a, ha, h⟩ := bind_some h
    obtain ⟨b, hb, h⟩ := bind_some h
    obtain ⟨q, hq, h⟩ := bind_some h
    cases h
    obtain ⟨h1, h2, h3⟩ := nx_pairs (pos := pos) hq
    unfold Tr.key at ha
    split at ha
    · cases ha
      exact ⟨pps_cons snd_cst_int (ok.E cx hb).1 h1, by rw [List.all_cons, h2]; rfl, congrArg Nat.succ h3⟩
    · cases ha
      exact ⟨pps_cons snd_cst_str (ok.E cx hb).1 h1, by rw [List.all_cons, h2]; rfl, congrArg Nat.succ h3⟩
    · cases ha
theorem nx_dct {ks : List (Option Expr)} {vs : List Expr} {s : Ex} {pos : Pos} (h : Tr.dct R T ks vs = some s) : PE X (.Dict ks vs pos) (tD X.K (ev C s)) := by
  unfold Tr.dct at h
  split at h
  · cases h
    exact snd_dct0
  · obtain ⟨x, y, rfl, h1, h2⟩ := nx_two cx ok h
    exact snd_dctN (by have := cx.room.un; omega) h1 h2
  · obtain ⟨hc, h⟩ := ite_some h
    obtain ⟨p, hp, rfl⟩ := map_some h
    obtain ⟨h1, h2, h3⟩ := nx_pairs cx ok (pos := pos) hp
    exact snd_dct h1 h2 h3 hc.1 hc.2
end
end Z

set_option linter.all false
set_option autoImplicit false
set_option Elab.async false
set_option maxRecDepth 100000
/-! Z, part 17: comprehensions, assignments, statements; every translation. -/
namespace Z
open PySem PySem.Spec PyProof.Rows L2
theorem rds_itv {C : Cf} {it : It} {ρ ρ1 : Env} {ds : List D} {rs : List RV} (e : itv C it ρ = some (ds, rs, ρ1)) : ∃ us, rds ρ1 rs = some us := by
  cases it with
  | seq a =>
    simp only [itv] at e
    split at e
    · split at e
      · rename_i xs el
        cases e
        unfold items at el
        split at el
        · rename_i ex; exact ⟨_, by unfold rds; rw [ex]; rfl⟩
        · rename_i ex; exact ⟨_, by unfold rds; rw [ex]; rfl⟩
        · cases el
      · unfold keysOf at e
        split at e
        · split at e
          · cases e; exact ⟨_, rfl⟩
          · cases e
        · cases e
    · cases e
  | rng1 a =>
    simp only [itv] at e
    split at e
    · split at e
      · cases e; exact ⟨_, rfl⟩
      · cases e
    · cases e
  | rng2 a c =>
    simp only [itv] at e
    split at e
    · split at e
      · split at e
        · cases e; exact ⟨_, rfl⟩
        · cases e
      · cases e
    · cases e
  | enum a =>
    simp only [itv] at e
    split at e
    · split at e
      · rename_i ex
        cases e
        exact ⟨_, by unfold rds; rw [ex]; rfl⟩
      · cases e
    · cases e
  | rng3 a b c =>
    simp only [itv] at e
    split at e
    · split at e
      · split at e
        · split at e
          · cases e; exact ⟨_, rfl⟩
          · cases e
        · cases e
      · cases e
    · cases e
  | zip a b =>
    simp only [itv] at e
    split at e
    · split at e
      · split at e
        · rename_i e1 e2
          cases e
          exact ⟨_, by unfold rds; rw [e1]; unfold rds; rw [e2]; rfl⟩
        · cases e
      · cases e
    · cases e
  | _ => simp [itv] at e
theorem comp_rd {X : Cx} {C : Cf} {e : Ex} {g : Tg} {it : It} {c : Txs} {own : List Nat} (σ : St) (H : Hp) (Q : VK) : tD X.K (ev C (.comp e g it c own)) σ H Q → tLc (tDi X.K (itv C it)) (tgN X.K (gv C g) own) (tDt X.K (tvs C c)) (tD X.K (ev C e)) own σ H Q := fun ⟨b, ρ, F, ad, r, ρ', B, R, e, h⟩ => by
  simp only [ev] at e
  split at e
  · rename_i ds rs ρ1 e1
    split at e
    · rename_i hc
      rw [Bool.and_eq_true, decide_eq_true_eq] at hc
      split at e
      · rename_i acc ρ2 e2
        cases e
        obtain ⟨us, eu⟩ := rds_itv e1
        exact lc_fin (C := C) (wi := tDi X.K (itv C it)) B R e1 eu hc.1 e2 hc.2 h
      · cases e
    · cases e
  · cases e
theorem dcomp_rd {X : Cx} {C : Cf} {k v : Ex} {g : Tg} {it : It} {c : Txs} {own : List Nat} (σ : St) (H : Hp) (Q : VK) : tD X.K (ev C (.dcomp k v g it c own)) σ H Q → tDcS (rDs X.K) (tDi X.K (itv C it)) (tgN X.K (gv C g) own) (tDt X.K (tvs C c)) (tD X.K (ev C k)) (tD X.K (ev C v)) own σ H Q := fun ⟨b, ρ, F, ad, o, ρ', B, R, e, h⟩ => by
  simp only [ev] at e
  split at e
  · rename_i ds rs ρ1 e1
    split at e
    · rename_i hc
      rw [Bool.and_eq_true, decide_eq_true_eq] at hc
      split at e
      · rename_i acc ρ2 e2
        cases e
        obtain ⟨us, eu⟩ := rds_itv e1
        exact dc_fin (C := C) B R e1 eu hc.1 e2 hc.2 h
      · cases e
    · cases e
  · cases e
theorem set_rd {X : Cx} {C : Cf} {i : Nat} {se : Ex} (D : Ends) (σ : St) (H : Hp) : tS X.K (sv C (.set i se)) D σ H → tAsg (tD X.K (ev C se)) (gName i) D σ H := fun ⟨b, ρ, F, ad, o, ρ', B, R, e, h⟩ => by
  simp only [sv] at e
  split at e
  · rename_i r ρ1 e1
    obtain ⟨ρ2, ek, eq⟩ := Option.map_eq_some_iff.mp e
    cases eq
    refine .now B R e1 fun v H1 F1 R1 s1 x1 => ?_
    obtain ⟨F', ad', R', s'⟩ := keep_ok R1 x1 ek
    exact h _ H1 F' ad' R' (s1.trans s')
  · cases e
theorem ite_some' {α : Type} {c : Prop} [Decidable c] {a : Option α} {y : α} (h : (if c then Option.none else a) = some y) : ¬ c ∧ a = some y := by
  by_cases q : c
  · rw [if_pos q] at h; cases h
  · rw [if_neg q] at h; exact ⟨q, h⟩
theorem noSet_ok {e : Expr} (h : Tr.noSet e = true) (env : PySem.Env) : ∀ x, foldedSetIterable e env x = pure x := by
  intro x
  cases e <;> first | rfl | cases h
theorem noComp_ok {e : Expr} (h : Tr.isComp e ≠ true) (t : Option Expr) (l : Nat) (env : PySem.Env) : swapsWith e t l env = pure false := by
  cases e <;> first | rfl | exact absurd rfl h
theorem plain_ok {e : Expr} (h : Tr.plainT e = true) (env : PySem.Env) : ∀ whole, isTrue e env whole = (do let v ← whole; standAt e.pos; holding [v] (truthy v)) := by
  intro whole
  cases e with
  | UnaryOp op a p => cases op <;> first | rfl | cases h
  | _ => first | rfl | cases h
theorem sw_gen (a b c d e : Bool) (names : List Str) (h : (if a = true then (none : Option (List Str)) else if b = true then none else if c = true then none else if d = true then none else some names) = none ∨ e = false) :
    (if a = true then (pure none : Sem (Option (List Str))) else if b = true then pure none else if c = true then pure none else if d = true then pure none else if e = true then (do unsupported "assign.tuple-of-constant-expressions:order-of-the-stores"; pure (some names)) else pure (some names)) =
      pure (if a = true then none else if b = true then none else if c = true then none else if d = true then none else some names) := by
  cases a <;> cases b <;> cases c <;> cases d <;> cases e <;> first | rfl | simp at h
theorem swapped_eq {ts vs : List Expr} {kt k2 : Nat} {pt pt2 : Pos} {env : PySem.Env} (hk : env.scope.kind = .function) (hc : Tr.swNames env.scope ts vs = none ∨ vs.all (constantsAlone 8) = false) :
    swappedStores [.Tuple ts kt pt] (.Tuple vs k2 pt2) env = pure (Tr.swNames env.scope ts vs) := by
  have hb : env.blockKind = .function := by unfold PySem.Env.blockKind; rw [hk]; rfl
  have hkf : ∀ id, env.kindOf id = env.scope.names.lookup id := fun id => rfl
  have hbe : (env.blockKind != .function) = false := by rw [hb]; rfl
  unfold swappedStores
  unfold Tr.swNames at hc ⊢
  dsimp only [hkf] at hc ⊢
  simp only [hkf, hbe, Bool.or_false, pure_bind]
  refine sw_gen _ _ _ _ _ _ hc
theorem blk_cxt {T : Tc} {C : Cf} {k : Nat} {X : Cx} (cx : Cxt T C k X) {scope : Scope} (hk : scope.kind = .function) (ho : ∀ p ∈ Tr.ownOf T scope, scope.names.lookup p.1 = some .cell ∨ (relS scope T.sc).names.lookup p.1 = some .local) (s : Shared) (H : Hp) (C0 : Addr) (cl : List (Str × Addr)) (fp : List Addr) :
    Cxt (Tr.blkT T scope) C k (X.blk s H scope (compEnvC scope cl C0 X.env) fp) where
  N := cx.N
  sc := by show relS scope X.env.scope = relS scope T.sc; rw [cx.sc]
  nd := cx.nd
  calm := cx.calm
  kind := hk
  fn := fun x hx => by
    obtain ⟨p, hp, rfl⟩ := List.mem_map.mp hx
    rcases ho p hp with q | q
    · refine .inl ?_
      show (scope.names.lookup p.1 == some .cell) = true
      rw [q]; rfl
    · refine .inr ?_
      rw [← cx.sc] at q
      exact q
  free := cx.free
  cns := cx.cns
  room := cx.room
  pass := PassesOwn.never
  calls := cx.calls
  gd := cx.gd
section
variable {T : Tc} {C : Cf} {k : Nat} {X : Cx} (cx : Cxt T C k X)
include cx
variable {R : Tr} (ok : R.Ok)
include ok
theorem nx_comp {elt tg iter : Expr} {ifs : List Expr} {scope : Scope} {s : Ex} (h : Tr.comp R T elt tg iter ifs scope = some s) (pos : Pos) : PE X (.ListComp elt [⟨tg, iter, ifs, 0⟩] scope pos) (tD X.K (ev C s)) ∧
    ∀ {i : Nat} {y : Str} {py spos : Pos}, X.N[i]? = some y → X.env.scope.names.lookup y = some .local → (py.line == pos.line) = true → (scope.names.any fun (n, k) => n == y && (k == .local || k == .cell)) = false →
      PS X (.Assign [.Name y py] (.ListComp elt [⟨tg, iter, ifs, 0⟩] scope pos) spos) (tS X.K (sv C (.set i s))) := by
  unfold Tr.comp at h
  obtain ⟨hc, h⟩ := ite_some h
  rw [Bool.and_eq_true, Bool.and_eq_true] at hc
  obtain ⟨⟨hb, hns⟩, ho⟩ := hc
  obtain ⟨it, hi, h⟩ := bind_some h
  obtain ⟨g, hg, h⟩ := bind_some h
  obtain ⟨hw, h⟩ := ite_some h
  obtain ⟨c, hcc, h⟩ := bind_some h
  obtain ⟨e, he, h⟩ := bind_some h
  cases h
  have bo : BlkOk X.N X.env.scope scope (Tr.ownOf T scope) := by
    rw [cx.N, cx.sc]
    exact blkOk_by hb
  have ho' : ∀ p ∈ Tr.ownOf T scope, scope.names.lookup p.1 = some .cell ∨ (relS scope T.sc).names.lookup p.1 = some .local := fun p hp => by
    have := List.all_eq_true.mp ho p hp
    simpa only [Bool.or_eq_true, decide_eq_true_eq] using this
  have bc := blk_cxt cx bo.kind ho'
  have hi' := ok.I cx hi
  refine ⟨(pe_lc cx.calm cx.ndX hi' bo (fun s H C0 cl fp => (ok.G (bc s H C0 cl fp) hg).2.1 _ hw) (fun s H C0 cl fp => ok.TS (bc s H C0 cl fp) hcc) (fun s H C0 cl fp => (ok.E (bc s H C0 cl fp) he).1) (noSet_ok hns _)).imp comp_rd, ?_⟩
  intro i y py spos h1 h2 h3 h4
  exact (ps_setLc cx.calm cx.ndX h1 h2 (sw_true cx.kind h2 h3 h4) hi' bo (fun s H C0 cl fp => (ok.G (bc s H C0 cl fp) hg).2.1 _ hw) (fun s H C0 cl fp => ok.TS (bc s H C0 cl fp) hcc) (fun s H C0 cl fp => (ok.E (bc s H C0 cl fp) he).1) (noSet_ok hns _)).imp fun D σ H q =>
    comp_rd σ H _ (set_rd D σ H q)
theorem nx_dcomp {ke ve tg iter : Expr} {ifs : List Expr} {scope : Scope} {s : Ex} (h : Tr.dcomp R T ke ve tg iter ifs scope = some s) (pos : Pos) : PE X (.DictComp ke ve [⟨tg, iter, ifs, 0⟩] scope pos) (tD X.K (ev C s)) ∧
    ∀ {i : Nat} {y : Str} {py spos : Pos}, X.N[i]? = some y → X.env.scope.names.lookup y = some .local → (py.line == pos.line) = true → (scope.names.any fun (n, k) => n == y && (k == .local || k == .cell)) = false →
      PS X (.Assign [.Name y py] (.DictComp ke ve [⟨tg, iter, ifs, 0⟩] scope pos) spos) (tS X.K (sv C (.set i s))) := by
  unfold Tr.dcomp at h
  obtain ⟨hc, h⟩ := ite_some h
  rw [Bool.and_eq_true, Bool.and_eq_true] at hc
  obtain ⟨⟨hb, hns⟩, ho⟩ := hc
  obtain ⟨it, hi, h⟩ := bind_some h
  obtain ⟨g, hg, h⟩ := bind_some h
  obtain ⟨hw, h⟩ := ite_some h
  obtain ⟨c, hcc, h⟩ := bind_some h
  obtain ⟨e, he, h⟩ := bind_some h
  obtain ⟨v, hv, h⟩ := bind_some h
  cases h
  have bo : BlkOk X.N X.env.scope scope (Tr.ownOf T scope) := by
    rw [cx.N, cx.sc]
    exact blkOk_by hb
  have ho' : ∀ p ∈ Tr.ownOf T scope, scope.names.lookup p.1 = some .cell ∨ (relS scope T.sc).names.lookup p.1 = some .local := fun p hp => by
    have := List.all_eq_true.mp ho p hp
    simpa only [Bool.or_eq_true, decide_eq_true_eq] using this
  have bc := blk_cxt cx bo.kind ho'
  have hi' := ok.I cx hi
  have hd : ∀ (s : Shared) (H : Hp) (C0 : Addr) (cl : List (Str × Addr)) (fp : List Addr), PDs (X.blk s H scope (compEnvC scope cl C0 X.env) fp) (rDs X.K) := fun s H C0 cl fp => ds_N (X := X.blk s H scope (compEnvC scope cl C0 X.env) fp) (by have := cx.room.un; show X.A.units + 9 < cLine; omega)
  have P : ∀ (z : Shared) (G : Hp) (c0 : Addr) (cl : List (Str × Addr)) (fp : List Addr), DcP (X.blk z G scope (compEnvC scope cl c0 X.env) fp) tg ke ve ifs (rDs X.K) (tgN X.K (gv C g) ((Tr.ownOf T scope).map (·.2))) (tDt X.K (tvs C c)) (tD X.K (ev C e)) (tD X.K (ev C v)) := fun z G c0 cl fp => ⟨hd z G c0 cl fp, (ok.G (bc z G c0 cl fp) hg).2.1 _ hw, ok.TS (bc z G c0 cl fp) hcc, (ok.E (bc z G c0 cl fp) he).1, (ok.E (bc z G c0 cl fp) hv).1⟩
  refine ⟨(pe_dcS cx.calm cx.ndX hi' bo P (noSet_ok hns _)).imp dcomp_rd, ?_⟩
  intro i y py spos h1 h2 h3 h4
  exact (ps_setDcS cx.calm cx.ndX h1 h2 (swD_true cx.kind h2 h3 h4) hi' bo P (noSet_ok hns _)).imp fun D σ H q =>
    dcomp_rd σ H _ (set_rd D σ H q)
theorem nx_dcomp1 {ke ve : Expr} {gs : List Comprehension} {scope : Scope} {s : Ex} (h : Tr.dcomp1 R T ke ve gs scope = some s) (pos : Pos) : PE X (.DictComp ke ve gs scope pos) (tD X.K (ev C s)) ∧
    ∀ {i : Nat} {y : Str} {py spos : Pos}, X.N[i]? = some y → X.env.scope.names.lookup y = some .local → (py.line == pos.line) = true → (scope.names.any fun (n, k) => n == y && (k == .local || k == .cell)) = false →
      PS X (.Assign [.Name y py] (.DictComp ke ve gs scope pos) spos) (tS X.K (sv C (.set i s))) := by
  unfold Tr.dcomp1 at h
  split at h
  · exact nx_dcomp cx ok h pos
  · cases h
theorem nx_par {ts vs : List Expr} {names : List Str} {s : Sx} {kt k2 : Nat} {pt pt2 pos : Pos} (hw : swappedStores [.Tuple ts kt pt] (.Tuple vs k2 pt2) X.env = pure (some names)) (h : Tr.par R T ts vs names = some s) : PS X (.Assign [.Tuple ts kt pt] (.Tuple vs k2 pt2) pos) (tS X.K (sv C s)) := by
  have inj : ∀ {i j : Nat} {x y : Str}, X.N[i]? = some x → X.N[j]? = some y → x ≠ y → i ≠ j := fun h1 h2 n q => by
    subst q
    rw [h1] at h2
    exact n (Option.some.inj h2)
  unfold Tr.par at h
  split at h
  · rename_i x px y py a b x' y'
    obtain ⟨⟨rfl, rfl, n1, l1, l2⟩, h⟩ := ite_some h
    obtain ⟨i, hi, h⟩ := bind_some h
    obtain ⟨j, hj, h⟩ := bind_some h
    obtain ⟨ss, hs, rfl⟩ := map_some h
    obtain ⟨i1, i2, i3⟩ := cx.lhs hi
    obtain ⟨j1, j2, j3⟩ := cx.lhs hj
    rw [← cx.sc] at l1 l2
    refine snd_par (is := [i, j]) (ok.ES cx hs).1 (ok.ESk cx hs) (fun ha => ps_par cx.calm cx.ndX i1 j1 (inj i1 j1 n1) l1 l2 ha hw rfl) fun ta D σ H q => ?_
    show ta σ H _
    rwa [show (fun (vs : List V) (H1 : Hp) => ∃ v w, vs = [v, w] ∧ D.nx ((σ.set i (some v)).set j (some w)) H1) = fun vs H1 => vs.length = [i, j].length ∧ D.nx (([i, j].zip vs).foldl (fun σ p => σ.set p.1 (some p.2)) σ) H1 from funext fun vs => funext fun H1 => propext ⟨fun ⟨v, w, e, z⟩ => by subst e; exact ⟨rfl, z⟩, fun ⟨e, z⟩ => by
      match vs, e, z with
      | [v, w], _, z => exact ⟨v, w, rfl, z⟩⟩]
  · rename_i x px y py z pz a b c x' y' z'
    obtain ⟨⟨rfl, rfl, rfl, n1, n2, n3, l1, l2, l3⟩, h⟩ := ite_some h
    obtain ⟨i, hi, h⟩ := bind_some h
    obtain ⟨j, hj, h⟩ := bind_some h
    obtain ⟨l, hl, h⟩ := bind_some h
    obtain ⟨ss, hs, rfl⟩ := map_some h
    obtain ⟨i1, i2, i3⟩ := cx.lhs hi
    obtain ⟨j1, j2, j3⟩ := cx.lhs hj
    obtain ⟨m1, m2, m3⟩ := cx.lhs hl
    rw [← cx.sc] at l1 l2 l3
    refine snd_par (is := [i, j, l]) (ok.ES cx hs).1 (ok.ESk cx hs) (fun ha => ps_par3 cx.calm cx.ndX i1 j1 m1 (inj i1 j1 n1) (inj i1 m1 n2) (inj j1 m1 n3) l1 l2 l3 ha hw rfl) fun ta D σ H q => ?_
    show ta σ H _
    rwa [show (fun (vs : List V) (H1 : Hp) => ∃ u v w, vs = [u, v, w] ∧ D.nx (((σ.set i (some u)).set j (some v)).set l (some w)) H1) = fun vs H1 => vs.length = [i, j, l].length ∧ D.nx (([i, j, l].zip vs).foldl (fun σ p => σ.set p.1 (some p.2)) σ) H1 from funext fun vs => funext fun H1 => propext ⟨fun ⟨u, v, w, e, z⟩ => by subst e; exact ⟨rfl, z⟩, fun ⟨e, z⟩ => by
      match vs, e, z with
      | [u, v, w], _, z => exact ⟨u, v, w, rfl, z⟩⟩]
  · cases h
theorem nx_comp1 {elt : Expr} {gs : List Comprehension} {scope : Scope} {s : Ex} (h : Tr.comp1 R T elt gs scope = some s) (pos : Pos) : PE X (.ListComp elt gs scope pos) (tD X.K (ev C s)) ∧
    ∀ {i : Nat} {y : Str} {py spos : Pos}, X.N[i]? = some y → X.env.scope.names.lookup y = some .local → (py.line == pos.line) = true → (scope.names.any fun (n, k) => n == y && (k == .local || k == .cell)) = false →
      PS X (.Assign [.Name y py] (.ListComp elt gs scope pos) spos) (tS X.K (sv C (.set i s))) := by
  unfold Tr.comp1 at h
  split at h
  · exact nx_comp cx ok h pos
  · cases h
theorem nx_asg {tg e : Expr} {l : Nat} {s : Sx} {pos : Pos} (h : Tr.asg R T tg e l = some s) : PS X (.Assign [tg] e pos) (tS X.K (sv C s)) := by
  unfold Tr.asg at h
  split at h
  · rename_i x p elt gs scope cp
    split at h
    · rename_i hc
      rw [Bool.and_eq_true, Bool.and_eq_true, Bool.not_eq_true', decide_eq_true_eq] at hc
      obtain ⟨i, hi, h⟩ := bind_some h
      obtain ⟨t, ht, rfl⟩ := map_some h
      obtain ⟨i1, i2, i3⟩ := cx.lhs hi
      have l1 := hc.1.1
      rw [← cx.sc] at l1
      exact (nx_comp1 cx ok ht cp).2 i1 l1 hc.1.2 hc.2
    · obtain ⟨hc, h⟩ := ite_some h
      have l1 := of_decide_eq_true hc
      rw [← cx.sc] at l1
      obtain ⟨i, hi, h⟩ := bind_some h
      obtain ⟨t, ht, rfl⟩ := map_some h
      obtain ⟨i1, i2, i3⟩ := cx.lhs hi
      refine snd_set cx.ndX i1 i2 (nx_comp1 cx ok ht cp).1 ?_ i3
      have kf : X.env.kindOf x = some .cell := l1
      have hb : X.env.blockKind = .function := by unfold PySem.Env.blockKind; rw [cx.kind]; rfl
      unfold swapsWith
      simp only [hb, kf]
      rfl
  · rename_i x p ke ve gs scope cp
    obtain ⟨hc, h⟩ := ite_some h
    rw [Bool.and_eq_true, Bool.and_eq_true, Bool.not_eq_true', decide_eq_true_eq] at hc
    obtain ⟨i, hi, h⟩ := bind_some h
    obtain ⟨t, ht, rfl⟩ := map_some h
    obtain ⟨i1, i2, i3⟩ := cx.lhs hi
    have l1 := hc.1.1
    rw [← cx.sc] at l1
    exact (nx_dcomp1 cx ok ht cp).2 i1 l1 hc.1.2 hc.2
  · obtain ⟨hc, h⟩ := ite_some' h
    obtain ⟨i, hi, h⟩ := bind_some h
    obtain ⟨t, ht, rfl⟩ := map_some h
    obtain ⟨i1, i2, i3⟩ := cx.lhs hi
    exact snd_set cx.ndX i1 i2 (ok.E cx ht).1 (noComp_ok hc _ _ _) i3
  · rename_i ts k p vs k2 p2
    split at h
    · rename_i names hn
      obtain ⟨hc, h⟩ := ite_some' h
      refine nx_par cx ok ?_ h
      rw [← hn, ← cx.sc]
      exact swapped_eq cx.kind (.inr (Bool.eq_false_iff.mpr hc))
    · rename_i hn
      obtain ⟨g, hg, h⟩ := bind_some h
      obtain ⟨t, ht, rfl⟩ := map_some h
      refine snd_asg (ok.E cx ht).1 (ok.G cx hg).1 rfl ?_ rfl
      rw [← hn, ← cx.sc]
      exact swapped_eq cx.kind (.inl (by rw [cx.sc]; exact hn))
  · rename_i e0 ts k p hne
    obtain ⟨hc, h⟩ := ite_some' h
    obtain ⟨g, hg, h⟩ := bind_some h
    obtain ⟨t, ht, rfl⟩ := map_some h
    refine snd_asg (ok.E cx ht).1 (ok.G cx hg).1 (noComp_ok hc (some (.Tuple ts k p)) pos.line X.env) ?_ rfl
    cases e <;> first | rfl | exact (hne _ _ _ rfl).elim
  · rename_i e0 a b p
    obtain ⟨hc, h⟩ := ite_some' h
    obtain ⟨g, hg, h⟩ := bind_some h
    obtain ⟨t, ht, rfl⟩ := map_some h
    refine snd_asg (ok.E cx ht).1 (ok.G cx hg).1 (noComp_ok hc (some (.Subscript a b p)) pos.line X.env) ?_ rfl
    cases e <;> rfl
  · cases h
end
end Z

set_option linter.all false
set_option autoImplicit false
set_option Elab.async false
set_option maxRecDepth 100000
/-! Z, part 18: every translation. -/
namespace Z
open PySem PySem.Spec PyProof.Rows L2
section
variable {T : Tc} {C : Cf} {k : Nat} {X : Cx} (cx : Cxt T C k X)
include cx
variable {R : Tr} (ok : R.Ok)
include ok
theorem nx_E {e : Expr} {s : Ex} (h : R.next.E T e = some s) : PE X e (tD X.K (ev C s)) ∧ noStar e := by
  unfold Tr.next at h
  dsimp only at h
  split at h
  · unfold Tr.const at h
    split at h
    · cases h; exact ⟨snd_cst_none, trivial⟩
    · cases h; exact ⟨snd_cst_bool, trivial⟩
    · cases h; exact ⟨snd_cst_int, trivial⟩
    · cases h; exact ⟨snd_cst_str, trivial⟩
    · cases h
  · exact ⟨nx_name cx ok h, trivial⟩
  · obtain ⟨t, rfl, h1, h2⟩ := nx_few cx ok h
    exact ⟨snd_lst h1 h2, trivial⟩
  · obtain ⟨t, rfl, h1, h2⟩ := nx_few cx ok h
    exact ⟨snd_tup h1 h2, trivial⟩
  · exact ⟨nx_dct cx ok h, trivial⟩
  · obtain ⟨x, y, rfl, h1, h2⟩ := nx_two cx ok h
    exact ⟨snd_bin h1 h2, trivial⟩
  · obtain ⟨x, hx, rfl⟩ := map_some h
    exact ⟨snd_neg (ok.E cx hx).1, trivial⟩
  · obtain ⟨x, hx, rfl⟩ := map_some h
    exact ⟨snd_not (ok.E cx hx).1, trivial⟩
  · obtain ⟨t, ht, h⟩ := bind_some h
    obtain ⟨x, y, rfl, h1, h2⟩ := nx_two cx ok h
    exact ⟨snd_ife (ok.T cx ht) h1 h2, trivial⟩
  · exact ⟨ok.B cx h _, trivial⟩
  · exact ⟨(nx_cmp cx ok h).1, trivial⟩
  · exact ⟨nx_subs cx ok h, trivial⟩
  · exact ⟨nx_call cx ok h, trivial⟩
  · exact ⟨nx_meth cx ok h, trivial⟩
  · exact ⟨(nx_comp1 cx ok h _).1, trivial⟩
  · exact ⟨(nx_dcomp1 cx ok h _).1, trivial⟩
  · cases h
theorem nx_B {op : BoolOp} {vs : List Expr} {s : Ex} (h : R.next.B T op vs = some s) (pos : Pos) : PE X (.BoolOp op vs pos) (tD X.K (ev C s)) := by
  unfold Tr.next at h
  dsimp only at h
  split at h
  · exact snd_one (ok.E cx h).1
  · unfold Tr.two at h
    obtain ⟨x, hx, h⟩ := bind_some h
    obtain ⟨y, hy, h⟩ := bind_some h
    cases h
    cases op with
    | And => exact snd_and (ok.E cx hx).1 (ok.B cx hy pos)
    | Or => exact snd_or (ok.E cx hx).1 (ok.B cx hy pos)
  · cases h
theorem nx_ES {es : List Expr} {s : Exs} (h : R.next.ES T es = some s) : PA X es (tDs X.K (evs C s)) ∧ s.len = es.length ∧ (∀ e r, es = e :: r → starEach (e :: r) X.env = (false, eval e X.env) :: starEach r X.env) ∧ (starEach es X.env).any (·.1) = false := by
  unfold Tr.next at h
  dsimp only at h
  split at h
  · cases h
    exact ⟨snd_nil, rfl, fun _ _ q => (nomatch q), rfl⟩
  · obtain ⟨x, hx, h⟩ := bind_some h
    obtain ⟨xs, hxs, h⟩ := bind_some h
    cases h
    obtain ⟨e1, e2⟩ := ok.E cx hx
    obtain ⟨q1, q2, q3, q4⟩ := ok.ES cx hxs
    refine ⟨snd_cons e1 q1 (star_cons e2 _ _), congrArg Nat.succ q2, fun e r q => ?_, ?_⟩
    · cases q
      exact star_cons e2 _ _
    · rw [star_cons e2, List.any_cons, q4]; rfl
theorem nx_ESk {es : List Expr} {s : Exs} (h : R.next.ES T es = some s) : PA X es (tDk X.K (evs C s)) := by
  unfold Tr.next at h
  dsimp only at h
  split at h
  · cases h
    exact live_nil
  · obtain ⟨x, hx, h⟩ := bind_some h
    obtain ⟨xs, hxs, h⟩ := bind_some h
    cases h
    obtain ⟨e1, e2⟩ := ok.E cx hx
    exact live_cons e1 (ok.ESk cx hxs) (star_cons e2 _ _)
theorem nx_KS {es : List Keyword} {s : Exs} (h : R.next.KS T es = some s) : PK X es (tDs X.K (evs C s)) ∧ s.len = es.length := by
  unfold Tr.next at h
  dsimp only at h
  split at h
  · cases h
    exact ⟨snd_knil, rfl⟩
  · obtain ⟨x, hx, h⟩ := bind_some h
    obtain ⟨xs, hxs, h⟩ := bind_some h
    cases h
    obtain ⟨e1, e2⟩ := ok.E cx hx
    obtain ⟨q1, q2⟩ := ok.KS cx hxs
    exact ⟨snd_kcons e1 q1, congrArg Nat.succ q2⟩
theorem nx_O {e : Option Expr} {s : Ox} (h : R.next.O T e = some s) : PO X e (tDo X.K (evo C s)) := by
  unfold Tr.next at h
  dsimp only at h
  split at h
  · cases h
    exact snd_ono
  · obtain ⟨x, hx, rfl⟩ := map_some h
    exact snd_oone (ok.E cx hx).1
theorem nx_T {e : Expr} {s : Tx} (h : R.next.T T e = some s) : PT X e (tDt X.K (tv C s)) := by
  unfold Tr.next at h
  dsimp only at h
  split at h
  · obtain ⟨x, hx, rfl⟩ := map_some h
    exact snd_tnot (ok.T cx hx)
  · exact (ok.TB cx h _).pt
  · obtain ⟨x, hx, rfl⟩ := map_some h
    exact (nx_cmp cx ok hx).2
  · obtain ⟨hp, h⟩ := ite_some h
    obtain ⟨x, hx, rfl⟩ := map_some h
    exact snd_tval (ok.E cx hx).1 (plain_ok hp _)
theorem nx_TB {op : BoolOp} {vs : List Expr} {s : Tx} (h : R.next.TB T op vs = some s) (pos : Pos) : PW X (.BoolOp op vs pos) (tDt X.K (tv C s)) := by
  unfold Tr.next at h
  dsimp only at h
  split at h
  · cases op with
    | And => exact snd_tand1 (ok.T cx h)
    | Or => exact snd_tor1 (ok.T cx h)
  · obtain ⟨x, hx, h⟩ := bind_some h
    obtain ⟨y, hy, h⟩ := bind_some h
    cases h
    cases op with
    | And => exact snd_tand (ok.T cx hx) (ok.TB cx hy pos)
    | Or => exact snd_tor (ok.T cx hx) (ok.TB cx hy pos)
  · cases h
theorem nx_TS {es : List Expr} {s : Txs} (h : R.next.TS T es = some s) : PTs X es (tDt X.K (tvs C s)) := by
  unfold Tr.next at h
  dsimp only at h
  split at h
  · cases h
    exact ⟨fun pins s σ H Q I ⟨b, ρ, F, ad, r, ρ', B, R, e, h⟩ => by
      simp only [tvs] at e
      cases e
      exact pts_nil.run pins s σ H Q I (h H F R (Same.refl _))⟩
  · obtain ⟨x, hx, rfl⟩ := map_some h
    exact pts_one (ok.T cx hx)
  · cases h
theorem nx_I {tg e : Expr} {s : It} (h : R.next.I T tg e = some s) : PI X tg e (tDi X.K (itv C s)) := by
  have h : Tr.itr R T tg e = some s := h
  unfold Tr.itr at h
  split at h
  · rename_i f p es q
    split at h
    · rename_i hc
      simp only [Bool.and_eq_true, decide_eq_true_eq] at hc
      obtain ⟨⟨hg, hf⟩, rfl⟩ := hc
      obtain ⟨g1, g2, g3⟩ := cx.gl hg
      split at h
      · obtain ⟨x, hx, rfl⟩ := map_some h
        obtain ⟨e1, e2⟩ := ok.E cx hx
        exact snd_rng1 g1 (cx.free _ hf) e1 (star_cons e2 _ _)
      · obtain ⟨x, hx, h⟩ := bind_some h
        obtain ⟨y, hy, h⟩ := bind_some h
        cases h
        obtain ⟨e1, e2⟩ := ok.E cx hx
        obtain ⟨f1, f2⟩ := ok.E cx hy
        exact snd_rng2 g1 (cx.free _ hf) e1 f1 (by rw [star_cons e2, star_cons f2]; rfl) (star_cons f2 _ _)
      · obtain ⟨x, hx, h⟩ := bind_some h
        obtain ⟨y, hy, h⟩ := bind_some h
        obtain ⟨z, hz, h⟩ := bind_some h
        cases h
        obtain ⟨e1, e2⟩ := ok.E cx hx
        obtain ⟨f1, f2⟩ := ok.E cx hy
        obtain ⟨h1, h2⟩ := ok.E cx hz
        exact snd_rng3 g1 (cx.free _ hf) e1 f1 h1 (star_cons e2) (star_cons f2) (star_cons h2)
      · cases h
    · split at h
      · rename_i hc
        simp only [Bool.and_eq_true, decide_eq_true_eq] at hc
        obtain ⟨⟨hg, hf⟩, rfl⟩ := hc
        obtain ⟨g1, g2, g3⟩ := cx.gl hg
        split at h
        · obtain ⟨ht, h⟩ := ite_some h
          obtain ⟨x, hx, rfl⟩ := map_some h
          obtain ⟨e1, e2⟩ := ok.E cx hx
          cases tg <;> first | cases ht | skip
          exact snd_enum g1 (cx.free _ hf) e1 (star_cons e2 _ _)
        · cases h
      · split at h
        · rename_i hc
          simp only [Bool.and_eq_true, decide_eq_true_eq] at hc
          obtain ⟨⟨hg, hf⟩, rfl⟩ := hc
          obtain ⟨g1, g2, g3⟩ := cx.gl hg
          split at h
          · obtain ⟨ht, h⟩ := ite_some h
            obtain ⟨x, hx, h⟩ := bind_some h
            obtain ⟨y, hy, h⟩ := bind_some h
            cases h
            obtain ⟨e1, e2⟩ := ok.E cx hx
            obtain ⟨f1, f2⟩ := ok.E cx hy
            cases tg <;> first | cases ht | skip
            exact snd_zip g1 (cx.free _ hf) e1 f1 (star_cons e2) (star_cons f2)
          · cases h
        · obtain ⟨x, hx, rfl⟩ := map_some h
          exact snd_seq (ok.E cx hx).1
  · obtain ⟨x, hx, rfl⟩ := map_some h
    exact snd_seq (ok.E cx hx).1
theorem nx_G {e : Expr} {s : Tg} (h : R.next.G T e = some s) : PG X e (tgG X.K (gv C s)) ∧ (∀ own, Tr.gOwn own s = true → PG X e (tgN X.K (gv C s) own)) ∧ noStar e := by
  have h : Tr.tgt R T e = some s := h
  unfold Tr.tgt at h
  split at h
  · obtain ⟨i, hi, rfl⟩ := map_some h
    obtain ⟨i1, i2, i3⟩ := cx.lhs hi
    exact ⟨snd_Gnm cx.ndX i1 i2 i3, fun own hw => snd_gnm cx.ndX i1 i2 (of_decide_eq_true hw) i3, trivial⟩
  · obtain ⟨x, hx, rfl⟩ := map_some h
    obtain ⟨q1, q2, q3, q4⟩ := ok.GS cx hx
    exact ⟨snd_Gtup cx.calm q1 q3 q4, fun own hw => snd_gtup cx.calm (q2 own hw) q3 q4, trivial⟩
  · rename_i x0 k0 px p0
    obtain ⟨i, hi, h⟩ := bind_some h
    obtain ⟨i1, i2, i3, i4⟩ := cx.slot hi
    split at h
    · cases h
    · rename_i hn
      obtain ⟨x, hx, rfl⟩ := map_some h
      refine ⟨snd_Gsub cx.room i1 i2 i3 i4 (ok.E cx hx).1 ?_, fun own hw => (nomatch hw), trivial⟩
      intro v
      cases k0 <;> first | rfl | exact (hn _ _ _ _ rfl).elim
  · cases h
theorem nx_GS {es : List Expr} {s : Tgs} (h : R.next.GS T es = some s) : PGs X es (tgGs X.K (gvs C s)) ∧ (∀ own, Tr.gOwn.gOwns own s = true → PGs X es (tgNs X.K (gvs C s) own)) ∧ (assignEach es X.env).length = s.len ∧ (assignEach es X.env).findIdx? (·.1) = Option.none := by
  unfold Tr.next at h
  dsimp only at h
  split at h
  · cases h
    exact ⟨snd_Gnil, fun _ _ => snd_gnil, rfl, rfl⟩
  · obtain ⟨x, hx, h⟩ := bind_some h
    obtain ⟨xs, hxs, h⟩ := bind_some h
    cases h
    obtain ⟨e1, e2, e3⟩ := ok.G cx hx
    obtain ⟨q1, q2, q3, q4⟩ := ok.GS cx hxs
    have a := asg_cons e3
    refine ⟨snd_Gcons e1 q1 (by rw [a]; rfl), fun own hw => ?_, ?_, ?_⟩
    · have hw : (Tr.gOwn own x && Tr.gOwn.gOwns own xs) = true := hw
      rw [Bool.and_eq_true] at hw
      exact snd_gcons (e2 own hw.1) (q2 own hw.2) (by rw [a]; rfl)
    · rw [a, List.length_cons, q3]; rfl
    · rw [a, List.findIdx?_cons, q4]; rfl
theorem nx_S {e : Stmt} {s : Sx} (h : R.next.S T e = some s) : PS X e (tS X.K (sv C s)) := by
  have h : Tr.stm R T e = some s := h
  unfold Tr.stm at h
  split at h
  · exact nx_asg cx ok h
  · obtain ⟨hc, h⟩ := ite_some' h
    obtain ⟨x, hx, rfl⟩ := map_some h
    exact snd_expr (ok.E cx hx).1 (noComp_ok hc _ _ _)
  · obtain ⟨x, hx, rfl⟩ := map_some h
    exact snd_ret (ok.E cx hx).1
  · cases h
    exact snd_retN
  · obtain ⟨x, hx, h⟩ := bind_some h
    obtain ⟨y, hy, h⟩ := bind_some h
    obtain ⟨z, hz, h⟩ := bind_some h
    cases h
    exact snd_if (ok.T cx hx) (ok.SS cx hy) (ok.SS cx hz)
  · obtain ⟨x, hx, h⟩ := bind_some h
    obtain ⟨y, hy, h⟩ := bind_some h
    cases h
    exact snd_while cx.pass (ok.T cx hx) (ok.SS cx hy)
  · obtain ⟨hn, h⟩ := ite_some h
    obtain ⟨x, hx, h⟩ := bind_some h
    obtain ⟨y, hy, h⟩ := bind_some h
    obtain ⟨z, hz, h⟩ := bind_some h
    cases h
    exact snd_for cx.pass cx.calm (ok.I cx hx) (ok.G cx hy).1 (ok.SS cx hz) (noSet_ok hn _)
  · cases h; exact snd_pass
  · cases h; exact snd_brk
  · cases h; exact snd_cnt
  · cases h; exact snd_never
  · cases h
omit cx in omit ok in
theorem pathOf_ok {x : Str} (e : Expr) {p : List Nat} (h : Tr.pathOf x e = some p) : PathE x e p := by
  unfold Tr.pathOf at h
  split at h
  · obtain ⟨z, h'⟩ := ite_some h
    subst z
    cases h'
    exact .nm _
  · rename_i a i j cp sp
    obtain ⟨h0, h⟩ := ite_some h
    obtain ⟨q, hq, rfl⟩ := map_some h
    have e : i = (i.toNat : Int) := (Int.toNat_of_nonneg h0).symm
    have := PathE.ix (x := x) i.toNat j cp sp (pathOf_ok a hq)
    rw [← e] at this
    exact this
  · cases h
termination_by sizeOf e
omit cx in omit ok in
theorem appOf_ok {x : Str} {s : Stmt} {p : List Nat} (h : Tr.appOf x s = some p) : AppS x s p := by
  unfold Tr.appOf at h
  split at h
  · obtain ⟨⟨z, hl⟩, h'⟩ := ite_some h
    subst z
    exact .mk (pathOf_ok _ h') hl
  · cases h
omit cx in omit ok in
theorem appsOf_ok {x : Str} : ∀ {ss : List Stmt}, ∃ apps, ss = apps ++ (Tr.appsOf x ss).2 ∧ AppSs x apps (Tr.appsOf x ss).1
  | [] => ⟨[], rfl, .nil⟩
  | s :: ss => by
    unfold Tr.appsOf
    cases e : Tr.appOf x s with
    | none => exact ⟨[], rfl, .nil⟩
    | some p =>
      obtain ⟨apps, h1, h2⟩ := appsOf_ok (x := x) (ss := ss)
      exact ⟨s :: apps, by dsimp only; rw [List.cons_append, ← h1], .cons (appOf_ok e) h2⟩
theorem nx_spoil {s : Stmt} {ss : List Stmt} {x : Sx} {xs : Sxs} (h : Tr.spoil R T s ss = some x) (hr : PSs X (Tr.behind s ss) (tS X.K (svs C xs))) : PSs X (s :: ss) (tS X.K (svs C (.cons x xs))) := by
  unfold Tr.spoil at h
  split at h
  · rename_i y px f pf es kws pc pa
    obtain ⟨_, h⟩ := ite_some h
    obtain ⟨hg, h⟩ := ite_some h
    obtain ⟨i, hi, h⟩ := bind_some h
    obtain ⟨j, hj, h⟩ := bind_some h
    obtain ⟨z, h'⟩ := ite_some h
    clear h
    subst z
    obtain ⟨i1, i2, i3⟩ := cx.lhs hi
    obtain ⟨h1, h2, h3, h4⟩ := cx.slot hj
    obtain ⟨g1, g2, g3⟩ := cx.gl hg
    unfold Tr.spoilD at h'
    obtain ⟨ks, hks, h⟩ := bind_some h'
    obtain ⟨sh, hsh, h⟩ := bind_some h
    obtain ⟨a, ha, h⟩ := bind_some h
    obtain ⟨b, hb, h⟩ := bind_some h
    cases h
    have q := List.find?_some hsh
    simp only [Bool.and_eq_true, decide_eq_true_eq] at q
    obtain ⟨⟨rfl, q2⟩, q3⟩ := q
    obtain ⟨ad, fd, ps, g, gV, c1, c2, c3, c4, c5, _⟩ := cx.calls sh (List.mem_of_find?_eq_some hsh)
    obtain ⟨e1, e2, e3, e4⟩ := ok.ES cx ha
    obtain ⟨k1, k2⟩ := ok.KS cx hb
    obtain ⟨n1, n2, n3, n4⟩ := kw_names cx ok (env := X.env) (pos := pc) hks
    rw [q2] at c4 c5
    rw [q3] at c4 c5
    obtain ⟨apps, a1, a2⟩ := appsOf_ok (x := y) (ss := ss)
    have hr : PSs X (Tr.appsOf y ss).2 (tS X.K (svs C xs)) := hr
    have key := snd_spoil (pos := pc) (px := px) (pa := pa) (p := pf) cx.ndX i1 i2 h2 h3 h4 i3 (snd_callT c3 cx.gd cx.room g1 c1 c2 c4 e2 (k2.trans n3) e1 k1 n1 n2 rfl n3 g2 e3 (by unfold backTo; simpa using e4) n4) c5 e2 (k2.trans n3) a2 hr
    rw [← a1] at key
    exact key
  · cases h
theorem nx_SS {es : List Stmt} {s : Sxs} (h : R.next.SS T es = some s) : PSs X es (tS X.K (svs C s)) := by
  unfold Tr.next at h
  dsimp only at h
  split at h
  · cases h
    exact snd_snil
  · split at h
    · rename_i x hx
      obtain ⟨xs, hxs, h⟩ := bind_some h
      cases h
      exact nx_spoil cx ok hx (ok.SS cx hxs)
    · obtain ⟨x, hx, h⟩ := bind_some h
      obtain ⟨xs, hxs, h⟩ := bind_some h
      cases h
      exact snd_scons (ok.S cx hx) (ok.SS cx hxs)
end
theorem next_ok {R : Tr} (ok : R.Ok) : R.next.Ok where
  E := fun cx _ _ h => nx_E cx ok h
  B := fun cx _ _ _ h => nx_B cx ok h
  ES := fun cx _ _ h => nx_ES cx ok h
  ESk := fun cx _ _ h => nx_ESk cx ok h
  KS := fun cx _ _ h => nx_KS cx ok h
  O := fun cx _ _ h => nx_O cx ok h
  T := fun cx _ _ h => nx_T cx ok h
  TB := fun cx _ _ _ h => nx_TB cx ok h
  TS := fun cx _ _ h => nx_TS cx ok h
  I := fun cx _ _ _ h => nx_I cx ok h
  G := fun cx _ _ h => nx_G cx ok h
  GS := fun cx _ _ h => nx_GS cx ok h
  S := fun cx _ _ h => nx_S cx ok h
  SS := fun cx _ _ h => nx_SS cx ok h
theorem tr_ok : ∀ n, (tr n).Ok
  | 0 => Tr.none_ok
  | n + 1 => next_ok (tr_ok n)
end Z

set_option linter.all false
set_option autoImplicit false
set_option Elab.async false
set_option maxRecDepth 100000
/-! Z, part 19: a def keeps its promise. -/
namespace Z
open PySem PySem.Spec PyProof.Rows L2
theorem Rps.at {K : Frag} {F : Hp} : ∀ {vs : List V} {ds : List D} {i : Nat} {d : D}, Rps K F vs ds → ds[i]? = some d → ∃ v, vs[i]? = some v ∧ Rp K F v d
  | _, _, 0, _, .cons x _, e => by simp at e; subst e; exact ⟨_, rfl, x⟩
  | _, _, i + 1, _, .cons _ xs, e => by simpa using Rps.at (i := i) xs (by simpa using e)
theorem entry0_len {F : Fn} {ds : List D} (h : ds.length = F.params) : (ds.map Sl.val ++ List.replicate (F.slots - F.params) Sl.no).length = ds.length + (F.slots - ds.length) := by
  rw [List.length_append, List.length_map, List.length_replicate, h]
theorem plain_some {ds : List D} {n i : Nat} {s : Sl} (h : (ds.map Sl.val ++ List.replicate n Sl.no)[i]? = some s) : s = .no ∨ ∃ d, s = .val d ∧ ds[i]? = some d := by
  by_cases hi : i < ds.length
  · rw [List.getElem?_append_left (by rw [List.length_map]; exact hi), List.getElem?_map] at h
    cases q : ds[i]? with
    | none => rw [q] at h; cases h
    | some d => rw [q] at h; cases h; exact .inr ⟨d, rfl, rfl⟩
  · rw [List.getElem?_append_right (by rw [List.length_map]; omega)] at h
    exact .inl (List.eq_of_mem_replicate (List.mem_of_getElem? h))
theorem start_at {N : List Str} {vs : List V} {i : Nat} {v : V} (h : vs[i]? = some v) : (start N vs)[i]? = some (some v) := by
  unfold L2.start
  have hi := (List.getElem?_eq_some_iff.mp h).1
  rw [List.getElem?_append_left (by rw [List.length_map]; exact hi), List.getElem?_map, h]
  rfl
theorem start_len {N : List Str} {vs : List V} : (start N vs).length = vs.length + (N.length - vs.length) := by
  unfold L2.start
  rw [List.length_append, List.length_map, List.length_replicate]
theorem entry_rl {K : Frag} {F0 H : Hp} {N : List Str} {vs : List V} {ds : List D} {n : Nat} (s : Same F0 H) (r : Rps K F0 vs ds) (hn : n = N.length - vs.length) (ad : Nat → Addr) : Rl K ⟨H, F0, none⟩ (start N vs) H (ds.map .val ++ List.replicate n .no) F0 ad where
  sub := s
  f0 := Same.refl _
  fd := fun _ _ e => .inl e
  old := fun _ _ e _ => e
  dom := fun _ e => e
  len := by rw [start_len, List.length_append, List.length_map, List.length_replicate, hn, r.length]
  val := fun i d e => by
    rcases plain_some e with q | ⟨x, q, hx⟩
    · cases q
    · cases q
      obtain ⟨v, h1, h2⟩ := r.at hx
      exact ⟨v, start_at h1, h2⟩
  cel := fun i t d e c => by
    rcases plain_some e with q | ⟨x, q, hx⟩ <;> subst q <;> cases c
  inj := fun i j t u d e h1 h2 c1 c2 _ => by
    rcases plain_some h1 with q | ⟨x, q, hx⟩ <;> subst q <;> cases c1
  own := fun i d e => by
    rcases plain_some e with q | ⟨x, q, hx⟩ <;> cases q
  bor := fun i d e => by
    rcases plain_some e with q | ⟨x, q, hx⟩ <;> cases q
theorem entry_rlB {K : Frag} {F0 H : Hp} {N : List Str} {a : Addr} {d0 : D} {vr : List V} {dr : List D} {n : Nat} (s : Same F0 H) (hF : F0 a = none) (ob : Ob K F0 H a d0) (r : Rps K F0 vr dr) (hn : n = N.length - (vr.length + 1)) :
    Rl K ⟨H, F0, some a⟩ (start N (.ref a :: vr)) H (.bor d0 :: (dr.map .val ++ List.replicate n .no)) F0 fun _ => a := by
  have at_ : ∀ (i : Nat) (t : Sl), (Sl.bor d0 :: (dr.map Sl.val ++ List.replicate n Sl.no))[i]? = some t → (i = 0 ∧ t = .bor d0) ∨ t = .no ∨ ∃ d j, i = j + 1 ∧ t = .val d ∧ dr[j]? = some d := fun i t e => by
    cases i with
    | zero => simp at e; exact .inl ⟨rfl, e.symm⟩
    | succ j =>
      rw [List.getElem?_cons_succ] at e
      rcases plain_some e with q | ⟨x, q, hx⟩
      · exact .inr (.inl q)
      · exact .inr (.inr ⟨x, j, rfl, q, hx⟩)
  refine { sub := s, f0 := Same.refl _, fd := fun _ _ e => .inl e, old := fun _ _ e _ => e, dom := fun _ e => e, len := ?_, val := fun i d e => ?_, cel := fun i t d e c => ?_, inj := fun i j t u d e h1 h2 c1 c2 _ => ?_, own := fun i d e => ?_, bor := fun i d e => ?_ }
  · rw [start_len, List.length_cons, List.length_cons, List.length_append, List.length_map, List.length_replicate, r.length, hn]
    have := r.length
    omega
  · rcases at_ i _ e with ⟨_, q⟩ | q | ⟨x, j, rfl, q, hx⟩
    · cases q
    · cases q
    · cases q
      obtain ⟨v, h1, h2⟩ := r.at hx
      exact ⟨v, start_at (by rw [List.getElem?_cons_succ]; exact h1), h2⟩
  · rcases at_ i _ e with ⟨rfl, q⟩ | q | ⟨x, j, rfl, q, hx⟩
    · subst q
      cases c
      exact ⟨start_at rfl, hF, ob⟩
    · subst q; cases c
    · subst q; cases c
  · rcases at_ i _ h1 with ⟨rfl, q⟩ | q | ⟨x, k, rfl, q, hx⟩
    · rcases at_ j _ h2 with ⟨rfl, q'⟩ | q' | ⟨x, k, rfl, q', hx⟩
      · rfl
      · subst q'; cases c2
      · subst q'; cases c2
    · subst q; cases c1
    · subst q; cases c1
  · rcases at_ i _ e with ⟨rfl, q⟩ | q | ⟨x, k, rfl, q, hx⟩ <;> cases q
  · rcases at_ i _ e with ⟨rfl, q⟩ | q | ⟨x, k, rfl, q, hx⟩
    · rfl
    · cases q
    · cases q
theorem ret_ok {K : Frag} {b : Bs} {σ : St} {H : Hp} {ρ : Env} {F : Hp} {ad : Nat → Addr} {v : V} {Fz : Fn} {r r' : RV} (R : Rl K b σ H ρ F ad) (x : RvR K b σ H ρ F ad v r) (e : retv Fz ρ r = some r') : ResR K F H b.H0 v r' := by
  cases r with
  | val d => cases e; exact x
  | new d =>
    cases e
    obtain ⟨a, h1, h2, h3, h4, h5⟩ := x
    exact ⟨a, h1, h2, h3, h5⟩
  | «at» i =>
    unfold retv at e
    dsimp only at e
    have x : σ[i]? = some (some v) := x
    split at e
    · rename_i d hd
      cases e
      obtain ⟨h1, h2, h3⟩ := R.cel i _ d hd rfl
      rw [x] at h1
      cases h1
      exact ⟨ad i, rfl, h2, h3, R.own i d hd⟩
    · rename_i d hd
      cases e
      obtain ⟨v', h1, h2⟩ := R.val i d hd
      rw [x] at h1
      cases h1
      exact h2
    · cases e
theorem leave_ok {K : Frag} {b : Bs} {σ : St} {H : Hp} {ρ : Env} {F : Hp} {ad : Nat → Addr} {v : V} {Fz : Fn} {r r' : RV} {m : Option D} {Q : VK} (R : Rl K b σ H ρ F ad) (x : RvR K b σ H ρ F ad v r) (e : leave Fz r ρ = some (r', m)) (h : Aft K b.H0 b.F0 b.bo r' m Q) : Q v H := by
  unfold leave at e
  split at e
  · cases e
  · rename_i r1 e1
    split at e
    · split at e
      · rename_i d hd
        cases e
        refine h v H F R.f0 R.sub R.fd R.old (fun a x q1 q2 => ?_) (ret_ok R x e1)
        cases q2
        obtain ⟨h1, h2, h3⟩ := R.cel 0 _ _ hd rfl
        have hb := R.bor 0 _ hd
        rw [hb] at q1
        cases q1
        exact ⟨h2, h3⟩
      · cases e
    · cases e
      exact h v H F R.f0 R.sub R.fd R.old (fun a x q1 q2 => nomatch q2) (ret_ok R x e1)
section
variable {P : Program} {w : World} {K : Frag} {mg : Str → Option Value} {base : Heap}
/-- a call's shape may be called -/
def CallAt (P : Program) (w : World) (K : Frag) (mg : Str → Option Value) (base : Heap) (cf : Str → List D → Option (RV × Option D)) (k : Nat) (s : Shp) : Prop := ∃ (a : Addr) (fd : FuncData) (ps : List Str) (g : List Value → List Value → List Value) (gV : List V → List V → List V),
  mg s.f = some (.ref a) ∧ PySem.W.keepIn K (.ref a) = true ∧ FnG P w K mg base k a fd ps (spF K cf s.f) ∧ KBn K fd ps s.n s.ks g gV ∧ Arr s.n s.ks.length gV s.gr ∧ (s.one = true → ∀ v, gV [v] [] = [v])
/-- what a text may lean on: the module's names -/
structure ModOk (K : Frag) (mg : Str → Option Value) (T : Tc) : Prop where
  free : ∀ x ∈ T.free, mg x = none
  cns : ∀ x d, T.cns.lookup x = some d → ∃ u v, mg x = some u ∧ RelV v u ∧ ∀ F, Rp K F v d
theorem zero_ok {W : Nat} {Γ : Str → Option Fn} {k : Nat} {a : Addr} {fd : FuncData} {ps : List Str} {f : Str} : FnG P w K mg base k a fd ps (spF K (callF W Γ 0) f) :=
  ⟨fun vs H Q E ⟨_, _, _, _, _, e, _⟩ => (nomatch e), fun A outer s H args us vs Q E quiet hr he hb hv ⟨_, _, _, _, _, e, _⟩ => (nomatch e)⟩
theorem def_ok {W n m0 : Nat} {Γ : Str → Option Fn} {x qual : Str} {params : Arguments} {body : List Stmt} {scope : Scope} {dvs : List V} {kws : List (Str × V)} {a : Addr} {fd : FuncData} {ps : List Str} {T : Tc} {Fz : Fn}
    (F : FunD K x qual params body scope dvs kws a fd) (S : FnScope T.N ps scope) (hsc : T.sc = scope) (hΓ : Γ x = some Fz) (hb : (tr m0).SS T body = some Fz.body) (hp : Fz.params = ps.length) (hs : Fz.slots = T.N.length)
    (M : ModOk K mg T) (calls : ∀ s ∈ T.shapes, CallAt P w K mg base (callF W Γ n) n s) : FnG P w K mg base (n + 1) a fd ps (spF K (callF W Γ (n + 1)) x) := by
  have run : ∀ {ds : List D} {r : RV} {m : Option D}, callF W Γ (n + 1) x ds = some (r, m) → ds.length = Fz.params ∧ ∃ o ρ, svs ⟨callF W Γ n, W⟩ Fz.body (entry Fz ds) = some (o, ρ) ∧ ((∃ r0, o = .ret r0 ∧ leave Fz r0 ρ = some (r, m)) ∨ (o = .nxt ∧ leave Fz (.val .non) ρ = some (r, m))) := fun {ds r m} e => by
    unfold callF at e
    rw [hΓ] at e
    dsimp only at e
    split at e
    · rename_i hl
      refine ⟨hl, ?_⟩
      split at e
      · rename_i r0 ρ e1
        exact ⟨_, _, e1, .inl ⟨r0, rfl, e⟩⟩
      · rename_i ρ e1
        exact ⟨_, _, e1, .inr ⟨rfl, e⟩⟩
      · cases e
    · cases e
  have mu : ∀ {r0 r : RV} {ρ : Env} {m : Option D}, leave Fz r0 ρ = some (r, m) → Fz.mu = m.isSome := fun {r0 r ρ m} e => by
    unfold leave at e
    split at e
    · cases e
    · split at e
      · rename_i hm
        split at e
        · cases e; exact hm
        · cases e
      · rename_i hm
        cases e
        exact Bool.eq_false_iff.mpr hm
  refine FnG.of F S (fun vs H Q E ⟨F0, ds, r, m, s0, e, h⟩ => ?_) fun cdv A outer s H vs Q E quiet hr ⟨F0, ds, r, m, s0, e, h⟩ => ?_
  · obtain ⟨hl, _⟩ := run e
    rw [← hp, ← hl]
    rcases h with ⟨_, h, _⟩ | ⟨a, vr, d, dr, d', _, rfl, rfl, _, _, h, _⟩
    · exact h.length
    · simp [h.length]
  · have hr' : Room n ((cxOf CX0 P w K mg base T.N qual scope a cdv A outer s H E).nox).A := hr
    have cx : Cxt T ⟨callF W Γ n, W⟩ n (cxOf CX0 P w K mg base T.N qual scope a cdv A outer s H E).nox := by
      refine ⟨rfl, hsc.symm, S.nd, rfl, S.kind, fun _ _ => .inl rfl, M.free, M.cns, hr, ?_, calls, quiet⟩
      exact PassesOwn.never
    have hss := (tr_ok m0).SS cx hb
    obtain ⟨hl, o, ρ, e1, e2⟩ := run e
    refine ⟨_, L2.PSs.nox hss, ?_⟩
    have fin : ∀ {b : Bs} {F1 : Hp}, b.H0 = H → b.F0 = F1 → Aft K H F1 b.bo r m Q → Wn K b ρ F1 { nx := fun _ H' => Q .non H', rt := Q } o := fun {b F1} h0 h1 af => by
      subst h0 h1
      rcases e2 with ⟨r0, rfl, e2⟩ | ⟨rfl, e2⟩
      · exact fun v σ' H' F' ad' R _ x => leave_ok R x e2 af
      · exact fun σ' H' F' ad' R _ => leave_ok R (v := .non) (r := .val .non) .non e2 af
    have hm : Fz.mu = m.isSome := by
      rcases e2 with ⟨r0, rfl, e2⟩ | ⟨rfl, e2⟩
      · exact mu e2
      · exact mu e2
    rcases h with ⟨rfl, h, af⟩ | ⟨c, vr, d, dr, d', rfl, rfl, rfl, hF, ob, h, af⟩
    · have e3 : entry Fz ds = ds.map .val ++ List.replicate (Fz.slots - Fz.params) .no := by
        unfold entry
        rw [hm]
        rfl
      rw [e3] at e1
      exact ⟨⟨H, F0, none⟩, _, F0, fun _ => 0, o, ρ, fun a q => (nomatch q), entry_rl s0 h (by rw [hs, ← hl, h.length]) _, e1, fin rfl rfl af⟩
    · have e3 : entry Fz (d :: dr) = .bor d :: (dr.map .val ++ List.replicate (Fz.slots - Fz.params) .no) := by
        unfold entry
        rw [hm]
        rfl
      rw [e3] at e1
      refine ⟨⟨H, F0, some c⟩, _, F0, fun _ => c, o, ρ, fun a q => ?_, entry_rlB s0 hF ob h (by rw [hs, ← hl, List.length_cons, h.length]), e1, fin rfl rfl af⟩
      cases q
      exact Ob.ex ob
end
end Z

set_option linter.all false
set_option autoImplicit false
set_option Elab.async false
set_option maxRecDepth 100000
/-! Z, part 20: a whole text of defs; the head's facts. -/
namespace Z
open PySem PySem.Spec PyProof.Rows L2
/-! ### arguments into the parameters' order -/
def gat {α : Type} (xs : List α) (dv : α) (its : List α) (off : Nat) : List (Nat ⊕ D) → Nat → List α
  | [], _ => []
  | .inl i :: r, p => xs.getD i dv :: gat xs dv its off r (p + 1)
  | .inr _ :: r, p => its.getD (p - off) dv :: gat xs dv its off r (p + 1)
def vD : D → V
  | .bl b => .bl b
  | .int i => .int i
  | .str x => .str x
  | _ => .non
/-- the defaults that a shape leaves to the def are the def's -/
def grOk (dd : List D) (off : Nat) : List (Nat ⊕ D) → Nat → Bool
  | [], _ => true
  | .inl _ :: r, p => grOk dd off r (p + 1)
  | .inr d :: r, p => (match d, dd[p - off]? with
    | .non, some .non => true
    | .bl a, some (.bl b) => a == b
    | .int a, some (.int b) => a == b
    | .str a, some (.str b) => decide (a = b)
    | _, _ => false) && grOk dd off r (p + 1)
theorem vals_getD {vs : List V} {us : List Value} (r : Vals vs us) (i : Nat) : RelV (vs.getD i .non) (us.getD i .none) := by
  rw [List.getD_eq_getElem?_getD, List.getD_eq_getElem?_getD]
  cases q : vs[i]? with
  | none => rw [Vals.none_of r q]; rfl
  | some v =>
    obtain ⟨u, h1, h2⟩ := Vals.get r q
    rw [h1]
    exact h2
theorem gat_vals {vs dvs : List V} {us its : List Value} {off : Nat} (r : Vals vs us) (rd : Vals dvs its) : ∀ (gr : List (Nat ⊕ D)) (p : Nat), Vals (gat vs .non dvs off gr p) (gat us .none its off gr p)
  | [], _ => .nil
  | .inl i :: gr, p => .cons (vals_getD r i) (gat_vals r rd gr (p + 1))
  | .inr _ :: gr, p => .cons (vals_getD rd _) (gat_vals r rd gr (p + 1))
theorem Hds.at {K : Frag} {σ : St} {F : Hp} : ∀ {vs : List V} {rs : List RV} {i : Nat} {r : RV}, Hds K σ F vs rs → rs[i]? = some r → ∃ v, vs[i]? = some v ∧ Hd K σ F v r
  | _, _, 0, _, .cons x _, e => by simp at e; subst e; exact ⟨_, rfl, x⟩
  | _, _, i + 1, _, .cons _ xs, e => by simpa using Hds.at (i := i) xs (by simpa using e)
theorem Hds.append' {K : Frag} {σ : St} {F : Hp} : ∀ {vs : List V} {rs : List RV} {zs : List V} {ts : List RV}, Hds K σ F vs rs → Hds K σ F zs ts → Hds K σ F (vs ++ zs) (rs ++ ts)
  | _, _, _, _, .nil, h => h
  | _, _, _, _, .cons x xs, h => .cons x (Hds.append' xs h)
theorem gat_arr {n m : Nat} {dd : List D} {off : Nat} {gr : List (Nat ⊕ D)} (h : grOk dd off gr 0 = true) : Arr n m (fun vs zs => gat (vs ++ zs) .non (dd.map vD) off gr 0) gr := by
  intro K σ F vs zs r1 r2 ps l1 l2 h1 h2 e
  have hh := Hds.append' h1 h2
  have go : ∀ (gr : List (Nat ⊕ D)) (p : Nat) (ps : List RV), grOk dd off gr p = true → arrange (r1 ++ r2) gr = some ps → Hds K σ F (gat (vs ++ zs) .non (dd.map vD) off gr p) ps := by
    intro gr
    induction gr with
    | nil => intro p ps _ e; cases e; exact .nil
    | cons g gr ih =>
      intro p ps hg e
      cases g with
      | inl j =>
        unfold arrange at e
        split at e
        · rename_i r l q1 q2
          cases e
          obtain ⟨v, z1, z2⟩ := hh.at q1
          unfold gat
          rw [List.getD_eq_getElem?_getD, z1]
          exact .cons z2 (ih (p + 1) l hg q2)
        · cases e
      | inr d =>
        unfold arrange at e
        split at e
        · rename_i l q2
          cases e
          unfold grOk at hg
          rw [Bool.and_eq_true] at hg
          unfold gat
          refine .cons ?_ (ih (p + 1) l hg.2 q2)
          rw [List.getD_eq_getElem?_getD, List.getElem?_map]
          have hg1 := hg.1
          split at hg1
          · rename_i q; rw [q]; exact Rp.non
          · rename_i q; rw [q, beq_iff_eq.mp hg1]; exact Rp.bl _
          · rename_i q; rw [q, beq_iff_eq.mp hg1]; exact Rp.int _
          · rename_i q; rw [q, of_decide_eq_true hg1]; exact Rp.str _
          · cases hg1
        · cases e
  exact go gr 0 ps h e
/-! ### a def's data -/
structure Dfn where
  x : Str
  args : Arguments
  body : List Stmt
  scope : Scope
  dd : List D
  ps : List Str
  T : Tc
  F : Fn
def Dfn.off (d : Dfn) : Nat := d.ps.length - d.dd.length
/-- every parameter is written -/
def ShpA (d : Dfn) (s : Shp) : Prop := ∀ (kV doc pm : Value) (an : Option Addr) (cdv ct : Value) (us ws : List Value), us.length = s.n → ws.length = s.ks.length →
  bindArgs (PySem.W.fnOf d.x d.x d.args d.body d.scope .none kV doc pm an cdv ct) ⟨us, s.ks.zip ws⟩ = pure (d.ps.zip (gat (us ++ ws) .none [] d.off s.gr 0))
/-- there are defaults -/
def ShpB (d : Dfn) (s : Shp) : Prop := ∀ (T : Addr) (kV doc pm : Value) (an : Option Addr) (cdv ct : Value) (us ws its : List Value), us.length = s.n → ws.length = s.ks.length → its.length = d.dd.length →
  ∃ k, bindArgs (PySem.W.fnOf d.x d.x d.args d.body d.scope (.ref T) kV doc pm an cdv ct) ⟨us, s.ks.zip ws⟩ = seqItems? (.ref T) >>= k ∧ k (some its.toArray) = pure (d.ps.zip (gat (us ++ ws) .none its d.off s.gr 0))
structure ShpOk (d : Dfn) (s : Shp) : Prop where
  gr : grOk d.dd d.off s.gr 0 = true
  b : (d.dd = [] ∧ ShpA d s) ∨ (d.dd ≠ [] ∧ ShpB d s)
  one : s.one = true → s.gr = [.inl 0]
abbrev Dfn.Fun (d : Dfn) (K : Frag) (a : Addr) (fd : FuncData) : Prop := FunD K d.x d.x d.args d.body d.scope (d.dd.map vD) [] a fd
theorem ShpOk.kbn {K : Frag} {d : Dfn} {s : Shp} {a : Addr} {fd : FuncData} (h : ShpOk d s) (F : d.Fun K a fd) : ∃ g, KBn K fd d.ps s.n s.ks g (fun vs zs => gat (vs ++ zs) .non (d.dd.map vD) d.off s.gr 0) := by
  obtain ⟨oc, od, dV, kV, doc, pm, an, cdv, ct, osl, rfl, lk, hcd, hD, hK⟩ := F.ex
  rcases h.b with ⟨e, q⟩ | ⟨e, q⟩
  · rcases hD with ⟨_, rfl⟩ | ⟨e', _⟩
    · refine ⟨fun us ws => gat (us ++ ws) .none [] d.off s.gr 0, ⟨fun s' us ws X l1 l2 => .of_eq (q kV doc pm an cdv ct us ws l1 l2), fun r1 r2 => ?_⟩⟩
      rw [e]
      exact gat_vals (r1.append r2) .nil _ _
    · rw [e] at e'; exact absurd rfl e'
  · rcases hD with ⟨e', _⟩ | ⟨_, T, o, its, m, rfl, lT, oT, rT⟩
    · exact absurd (List.map_eq_nil_iff.mp e') e
    · refine ⟨fun us ws => gat (us ++ ws) .none its d.off s.gr 0, ⟨fun s' us ws X l1 l2 => ?_, fun r1 r2 => gat_vals (r1.append r2) rT _ _⟩⟩
      obtain ⟨k, e1, e2⟩ := q T kV doc pm an cdv ct us ws its l1 l2 (by rw [← rT.length, List.length_map])
      refine BindsTo.of_looks fun M => ?_
      rw [e1]
      exact looks_items X lT oT (.of_pure e2)
structure DfnOk (Γ : Str → Option Fn) (d : Dfn) : Prop where
  S : FnScope d.T.N d.ps d.scope
  sc : d.T.sc = d.scope
  g : Γ d.x = some d.F
  b : (tr 60).SS d.T d.body = some d.F.body
  p : d.F.params = d.ps.length
  s : d.F.slots = d.T.N.length
section
variable {P : Program} {w : World} {K : Frag} {mg : Str → Option Value} {base : Heap}
theorem prog_ok {W : Nat} {Γ : Str → Option Fn} {L : List Dfn} (ok : ∀ d ∈ L, DfnOk Γ d) (facts : ∀ d ∈ L, ∃ a fd, d.Fun K a fd ∧ mg d.x = some (.ref a)) (M : ∀ d ∈ L, ModOk K mg d.T) (sh : ∀ d ∈ L, ∀ s ∈ d.T.shapes, ∃ d' ∈ L, s.f = d'.x ∧ ShpOk d' s) :
    ∀ n, ∀ d ∈ L, ∀ a fd, d.Fun K a fd → FnG P w K mg base n a fd d.ps (spF K (callF W Γ n) d.x)
  | 0, d, hd, a, fd, F => zero_ok
  | n + 1, d, hd, a, fd, F => by
    have o := ok d hd
    refine def_ok F o.S o.sc o.g o.b o.p o.s (M d hd) fun s hs => ?_
    obtain ⟨d', hd', e, so⟩ := sh d hd s hs
    obtain ⟨a', fd', F', hm⟩ := facts d' hd'
    obtain ⟨g, kb⟩ := so.kbn F'
    refine ⟨a', fd', d'.ps, g, _, by rw [e]; exact hm, F'.kp, by rw [e]; exact prog_ok ok facts M sh n d' hd' a' fd' F', kb, gat_arr so.gr, fun h1 v => ?_⟩
    rw [so.one h1]
    rfl
end
/-! ### the head's facts -/
def dvOf : D → He.Dv
  | .bl b => .bl b
  | .int i => .int i
  | .str x => .str x
  | _ => .non
theorem dv_vD (K : Frag) (d : D) : (dvOf d).v K = vD d := by cases d <;> rfl
def immD : D → Bool
  | .non => true
  | .bl _ => true
  | .int _ => true
  | .str _ => true
  | _ => false
theorem imm_rp {K : Frag} {F : Hp} {d : D} (h : immD d = true) : Rp K F (vD d) d := by
  cases d with
  | non => exact .non
  | bl b => exact .bl b
  | int i => exact .int i
  | str x => exact .str x
  | _ => cases h
theorem imms_rp {K : Frag} {F : Hp} : ∀ {ds : List D}, ds.all immD = true → Rps K F (ds.map vD) ds
  | [], _ => .nil
  | d :: ds, h => by
    rw [List.all_cons, Bool.and_eq_true] at h
    exact .cons (imm_rp h.1) (imms_rp h.2)
/-- a module's name that holds data -/
def cstB (K : Frag) (x : Str) : D → Bool
  | .int i => (He.Fa.int x i).ok K
  | .str z => (He.Fa.str x z).ok K
  | .tup ds => (He.Fa.glo x).ok K && (He.tupB K x (ds.map dvOf) && ds.all immD)
  | _ => false
theorem cst_ok {K : Frag} {h : Heap} {mg : Str → Option Value} (X : K.In h) (G : h.Ns mainGlobals mg) {x : Str} {d : D} (c : cstB K x d = true) : ∃ u v, mg x = some u ∧ RelV v u ∧ ∀ F, Rp K F v d := by
  cases d with
  | int i =>
    obtain ⟨t, e⟩ := He.int_ok X G (show (He.Fa.int x i).ok K = true from c)
    exact ⟨_, .int i, e, ⟨t, rfl⟩, fun F => .int i⟩
  | str z =>
    obtain ⟨t, e⟩ := He.str_ok X G (show (He.Fa.str x z).ok K = true from c)
    exact ⟨_, .str z, e, ⟨t, rfl⟩, fun F => .str z⟩
  | tup ds =>
    obtain ⟨c1, c2⟩ := He.ba (show ((He.Fa.glo x).ok K && (He.tupB K x (ds.map dvOf) && ds.all immD)) = true from c)
    obtain ⟨c2, c3⟩ := He.ba c2
    refine ⟨_, .ref (He.ga K x), He.glo_ok X G c1, rfl, fun F => .tup (He.tupB_ok c2 F) ?_⟩
    rw [List.map_map]
    have : (He.Dv.v K ∘ dvOf) = vD := funext fun d => dv_vD K d
    rw [this]
    exact imms_rp c3
  | _ => cases c
def Dfn.d (d : Dfn) : He.DefD := ⟨(d.x, none), d.x, d.x, d.args, d.body, d.scope, d.dd.map dvOf, []⟩
/-- what the head tells: all defs stand, the names hold what is said, the others nothing -/
def obsZ (L : List Dfn) (free : List Str) (cns : List (Str × D)) (K : Frag) : Bool × List He.FnW :=
  ((L.all fun d => (He.Fa.glo d.x).ok K && d.d.ok K) && (free.all fun x => (He.Fa.free x).ok K) && (cns.all fun p => cstB K p.1 p.2), L.map fun d => He.fnW K d.d.at_)
def valZ (L : List Dfn) : Bool × List He.FnW := (true, L.map fun d => d.d.val)
def obsZG (as : List Addr) (L : List Dfn) (free : List Str) (cns : List (Str × D)) (g : Addr → Option Obj) : Bool × List He.FnW := obsZ L free cns (He.frG g as)
def hookZ (as : List Addr) (L : List Dfn) (free : List Str) (cns : List (Str × D)) : PySem.W.Hook where
  α := Bool × List He.FnW
  obs := fun s => obsZG as L free cns s.heap.get?
  val := fun _ => valZ L
  says := fun _ h => ∃ K : PySem.W.Frag, K.In h ∧ obsZ L free cns K = valZ L
  of := fun _ _ e => ⟨_, He.frG_in, e⟩
  keeps := fun _ _ _ ⟨K, hK, c⟩ k => ⟨K, PySem.W.Frag.In.keeps hK k, c⟩
theorem obsZG_eq {as : List Addr} {L : List Dfn} {free : List Str} {cns : List (Str × D)} {g : Addr → Option Obj} {s : Shared} (h : ∀ a, g a = s.heap.get? a) : obsZG as L free cns g = (hookZ as L free cns).obs s := by
  have e : g = s.heap.get? := funext h
  rw [e] <;> rfl
theorem facts_of {L : List Dfn} {free : List Str} {cns : List (Str × D)} {K : Frag} {h : Heap} {mg : Str → Option Value} (X : K.In h) (G : h.Ns mainGlobals mg) (c : obsZ L free cns K = valZ L) :
    (∀ d ∈ L, ∃ a fd, d.Fun K a fd ∧ mg d.x = some (.ref a)) ∧ (∀ x ∈ free, mg x = none) ∧ (∀ x d, cns.lookup x = some d → ∃ u v, mg x = some u ∧ RelV v u ∧ ∀ F, Rp K F v d) := by
  have c1 : ((L.all fun d => (He.Fa.glo d.x).ok K && d.d.ok K) && (free.all fun x => (He.Fa.free x).ok K) && (cns.all fun p => cstB K p.1 p.2)) = true := congrArg (fun z : Bool × List He.FnW => z.1) c
  have c2 : (L.map fun d => He.fnW K d.d.at_) = L.map fun d => d.d.val := congrArg (fun z : Bool × List He.FnW => z.2) c
  obtain ⟨c3, c4⟩ := He.ba c1
  obtain ⟨c5, c6⟩ := He.ba c3
  refine ⟨fun d hd => ?_, fun x hx => He.free_ok X G (List.all_eq_true.mp c6 x hx), fun x d e => ?_⟩
  · obtain ⟨q1, q2⟩ := He.ba (List.all_eq_true.mp c5 d hd)
    obtain ⟨fd, F⟩ := He.DefD.funD (List.map_inj_left.mp c2 d hd) q2
    refine ⟨_, fd, ?_, He.glo_ok X G q1⟩
    have e : d.d.dvs K = d.dd.map vD := by
      show (d.dd.map dvOf).map (He.Dv.v K) = _
      rw [List.map_map]
      exact congrArg (fun f => d.dd.map f) (funext fun x => dv_vD K x)
    rw [e] at F
    exact F
  · have : (x, d) ∈ cns := by
      clear c1 c2 c3 c4 c c5 c6
      induction cns with
      | nil => cases e
      | cons p r ih =>
        obtain ⟨y, z⟩ := p
        rw [List.lookup_cons] at e
        split at e
        · rename_i q
          cases e
          rw [beq_iff_eq.mp q]
          exact List.mem_cons_self
        · exact List.mem_cons_of_mem _ (ih e)
    exact cst_ok X G (List.all_eq_true.mp c4 _ this)
end Z
namespace Z
theorem allN {α : Type _} {p : α → Prop} : ∀ x ∈ ([] : List α), p x := fun _ h => nomatch h
theorem allC {α : Type _} {p : α → Prop} {a : α} {l : List α} (h : p a) (t : ∀ x ∈ l, p x) : ∀ x ∈ a :: l, p x := fun x hx => by
  cases hx with
  | head => exact h
  | tail _ hx => exact t x hx
end Z
namespace Z
open PySem PySem.Spec PyProof.Rows L2
theorem law_sp {K : Frag} {cf : Str → List D → Option (RV × Option D)} {f : Str} {m : Nat} (e : ∀ ns : List Int, ns.length ≤ m → cf f [.scr ns] = some (.val (.bl true), none)) {H : Hp} {a : Addr} {ns : List Int} {E : XK} (hl : ns.length ≤ m) (h : SqL K H a (ns.map V.int)) :
    spF K cf f [.ref a] H (fun v _ => v = .bl true) E :=
  ⟨H, [.scr ns], .val (.bl true), none, Same.refl _, e ns hl, .inl ⟨rfl, .cons (.scr h) .nil, fun v H' F' _ _ _ _ _ r => by cases r; rfl⟩⟩
theorem law_facts {P : Program} {w : World} {K : Frag} {h : Heap} {mg : Str → Option Value} {fa : Addr} {L : List Dfn} {Γ : Str → Option Fn} {W n : Nat} {SH : List Shp} {free : List Str} {cns : List (Str × D)} {d : Dfn} (X : K.In h) (G : h.Ns mainGlobals mg) (c : obsZ L free cns K = valZ L)
    (ok : ∀ d ∈ L, DfnOk Γ d) (shL : ∀ d ∈ L, d.T.shapes = SH ∧ d.T.free = free ∧ d.T.cns = cns) (sh : ∀ d ∈ L, ∀ s ∈ d.T.shapes, ∃ d' ∈ L, s.f = d'.x ∧ ShpOk d' s) (hd : d ∈ L) (hfa : mg d.x = some (.ref fa)) (hdd : d.dd = [])
    (hb : ∀ (kV doc pm : Value) (an : Option Addr) (cdv ct : Value) (us : List Value), us.length = d.ps.length → bindArgs (PySem.W.fnOf d.x d.x d.args d.body d.scope .none kV doc pm an cdv ct) ⟨us, []⟩ = pure (d.ps.zip us)) (hps : d.ps = [("script" : Str)]) :
    ∃ fd : FuncData, (∀ (s : Shared) (v : Value), BindsTo s fd ⟨[v], []⟩ [("script", v)]) ∧ ∀ base : Heap, K.In base → base.Ns mainGlobals mg → FnG P w K mg base n fa fd [("script" : Str)] (spF K (callF W Γ n) d.x) := by
  obtain ⟨f1, f2, f3⟩ := facts_of X G c
  obtain ⟨a, fd, F, e⟩ := f1 d hd
  rw [hfa] at e
  cases e
  have M : ∀ d ∈ L, ModOk K mg d.T := fun d hd => ⟨fun x hx => f2 x (by rw [(shL d hd).2.1] at hx; exact hx), fun x y hx => f3 x y (by rw [(shL d hd).2.2] at hx; exact hx)⟩
  refine ⟨fd, fun s v => ?_, fun base _ _ => ?_⟩
  · have F' : FunD K d.x d.x d.args d.body d.scope [] [] fa fd := by
      have : d.dd.map vD = [] := by rw [hdd]; rfl
      have F : FunD K d.x d.x d.args d.body d.scope (d.dd.map vD) [] fa fd := F
      rw [this] at F
      exact F
    have := FunD.bindsA (ps := d.ps) F' hb s [v] (by rw [hps]; rfl)
    rw [hps] at this
    exact this
  · have := prog_ok (P := P) (w := w) (base := base) (W := W) ok f1 M sh n d hd fa fd F
    rw [hps] at this
    exact this
end Z

set_option linter.all false
set_option autoImplicit false
set_option Elab.async false
set_option maxRecDepth 100000
/-! Z, part 20b: a law's end for a promise with quiet guards. -/
namespace Z
open PySem PySem.Spec PyProof.Rows L2
section
variable {P : Program} {w : World} {K : PySem.W.Frag} {mg mb : Str → Option Value} {CX : CXT} {k : Nat} {fa a : Addr} {fd : FuncData} {x : Str} {sp : Sp} {t : Shared} {us : List Value} {ns : List Int}
/-- what a law's run is asked -/
abbrev EndQ (t : Shared) : Except Value Flow → Shared → Prop := fun r t' => r = .ok (.ret (.bool true)) ∧ OldK t.heap t'.heap ∧ t'.os = t.os ∧ AllBare t'.gens
abbrev scrO (us : List Value) : Obj := { cls := .type "list", data := .seq us.toArray }
/-- the heap behind, where at most the script is tracked -/
structure Lone (K : PySem.W.Frag) (w : World) (P : Program) (a : Addr) (ns : List Int) (t : Shared) (H : Hp) : Prop where
  only : Only H
  sq : SqL K H a (ns.map V.int)
  hok : HOk P w H t.heap
  at_ : ∀ b, H b ≠ none → b = a
  out : H a ≠ none → K.lookup a = none
theorem Lone.hid {H : Hp} (L : Lone K w P a ns t H) (obj : t.heap.get? a = some (scrO us)) {b : Addr} {o : Obj} (e : t.heap.get? b = some o) (h : b ≠ a ∨ ∃ es ep, o.data = .dict es ep) : (hidT t.heap H).get? b = some o :=
  hidT_get e (by
    cases q : H b with
    | none => rfl
    | some z =>
      obtain rfl := L.at_ b (by rw [q]; exact Option.some_ne_none _)
      rcases h with h | ⟨es, ep, h⟩
      · exact absurd rfl h
      · rw [obj] at e
        cases e
        cases h)
theorem Lone.names {H : Hp} (L : Lone K w P a ns t H) (obj : t.heap.get? a = some (scrO us)) {b : Addr} {m : Str → Option Value} : t.heap.Ns b m → (hidT t.heap H).Ns b m :=
  fun ⟨o, es, ep, e, d, r⟩ => ⟨o, es, ep, L.hid obj e (.inr ⟨es, ep, d⟩), d, r⟩
theorem Lone.inK {H : Hp} (L : Lone K w P a ns t H) (obj : t.heap.get? a = some (scrO us)) (KX : K.In t.heap) : K.In (hidT t.heap H) := fun b o e => by
  by_cases hb : b = a
  · subst hb
    cases q : H b with
    | none => exact hidT_get (KX b o e) q
    | some z =>
      have := L.out (by rw [q]; exact Option.some_ne_none _)
      rw [this] at e
      cases e
  · exact L.hid obj (KX b o e) (.inl hb)
theorem lone_run {H : Hp} (L : Lone K w P a ns t H) (KX : K.In t.heap) (hns : t.heap.Ns mainGlobals mg) (hb : t.heap.Ns builtinsNs mb) (hbb : ∀ y : Str, y ≠ "__name__" → mb y = bootBuiltins y) (hlim : t.heap.NoLimit) (hg : t.gens = #[]) (obj : t.heap.get? a = some (scrO us)) (room : Room k callerA)
    (F : ∀ base : Heap, K.In base → base.Ns mainGlobals mg → FnG P w K mg base k fa fd [x] sp) (bind : ∀ (s : Shared) (u : Value), BindsTo s fd ⟨[u], []⟩ [(x, u)]) (asks : ∀ H : Hp, Only H → SqL K H a (ns.map V.int) → sp [.ref a] H (fun v _ => v = .bl true) fun _ _ _ => False)
    (none_ : ∀ H e t', C8.CX0 [] H t (fun _ _ _ => False) e t' → False) : codeAny (model P w) callerA (.call (.ref fa) ⟨[.ref a], []⟩) (EndQ t) t := by
  have kin := L.inK obj KX
  have nms := L.names obj (b := mainGlobals) hns
  obtain ⟨mc, lim1, lim2⟩ := hlim
  have md : Mod K mg (hidT t.heap H) := ⟨kin, nms, ⟨mb, L.names obj hb, hbb⟩, mc, L.names obj lim1, lim2⟩
  have env : Env0 P w K mg (hidT t.heap H) callerA [] t H := ⟨rfl, md, fun _ _ z => of_hidT z, Nat.le_of_eq (hidT_size _ _), trivial, (fun _ z => (nomatch z)), L.hok, .of_eq hg⟩
  have go := (F _ kin nms).run callerA [] t H ⟨[.ref a], []⟩ [.ref a] [.ref a] _ _ rfl room env (bind t (.ref a)) (.cons rfl .nil) (asks H L.only L.sq)
  refine codeAny_mono go fun r t' h => ?_
  match r, h with
  | .error e, h => exact (none_ H e t' h).elim
  | .ok .next, h => exact h.elim
  | .ok .brk, h => exact h.elim
  | .ok .cont, h => exact h.elim
  | .ok (.ret u), ⟨v, H', os, bare, un, hok', rel, q⟩ =>
    have q : v = .bl true := q
    subst q
    have rel : u = Value.bool true := rel
    subst rel
    refine ⟨rfl, .of_keep fun b o e => ?_, os, bare⟩
    by_cases z : H b = none
    · exact un.keep b o e z (fun y => nomatch y) (by simp)
    · rcases L.only b with z2 | ⟨ob, xs, z2⟩
      · exact absurd z2 z
      · have e1 := (L.hok b _ z2).1
        have e2 := (hok' b _ (un.frzs b ob _ z2)).1
        rw [e] at e1
        cases e1
        exact e2
/-- a law's call, its def by FnG -/
theorem callG (KX : K.In t.heap) (hns : t.heap.Ns mainGlobals mg) (hb : t.heap.Ns builtinsNs mb) (hbb : ∀ y : Str, y ≠ "__name__" → mb y = bootBuiltins y) (hlim : t.heap.NoLimit) (hg : t.gens = #[]) (obj : t.heap.get? a = some (scrO us)) (hi : IntsAre us ns) (short : ns.length ≤ sizeLine) (room : Room k callerA)
    (F : ∀ base : Heap, K.In base → base.Ns mainGlobals mg → FnG P w K mg base k fa fd [x] sp) (bind : ∀ (s : Shared) (u : Value), BindsTo s fd ⟨[u], []⟩ [(x, u)]) (asks : ∀ H : Hp, Only H → SqL K H a (ns.map V.int) → sp [.ref a] H (fun v _ => v = .bl true) fun _ _ _ => False)
    (none_ : ∀ H e t', C8.CX0 [] H t (fun _ _ _ => False) e t' → False) : codeAny (model P w) callerA (.call (.ref fa) ⟨[.ref a], []⟩) (EndQ t) t := by
  have rel := vals_ints hi
  cases hk : K.lookup a with
  | some o =>
    obtain rfl : scrO us = o := Option.some.inj (obj.symm.trans (KX a o hk))
    have L : Lone K w P a ns t (fun _ => none) := ⟨fun _ => .inl rfl, .inr ⟨_, us.toArray, _, hk, rfl, rfl, rfl, by rw [List.size_toArray, hi.length]; exact short, by simpa using rel⟩, (fun _ _ z => (nomatch z)), fun _ z => absurd rfl z, fun z => absurd rfl z⟩
    exact lone_run L KX hns hb hbb hlim hg obj room F bind asks none_
  | none =>
    have L : Lone K w P a ns t (fun b => if b = a then some (.frz (scrO us) (.lst (ns.map V.int))) else none) := by
      refine ⟨fun b => ?_, .inl (.inr ⟨_, if_pos rfl⟩), fun b u z => ?_, fun b z => ?_, fun _ => hk⟩
      · by_cases q : b = a
        · exact .inr ⟨_, _, if_pos q⟩
        · exact .inl (if_neg q)
      · by_cases q : b = a
        · subst q
          cases (if_pos rfl).symm.trans z
          exact ⟨obj, by rw [List.length_map]; exact short, us, _, rel, obj⟩
        · cases (if_neg q).symm.trans z
      · exact Classical.byContradiction fun q => z (if_neg q)
    exact lone_run L KX hns hb hbb hlim hg obj room F bind asks none_
end
/-- a law from its def's promise -/
theorem walkG {l : PySem.W.OpenLaw} {n k : Nat} {q : Program} {loose : List Str} {XP : (Str → Option Value) → Heap → Prop} {YP : World → Heap → Prop} {d : DefRec} {x : Str} (most : l.most = some n) (line : n ≤ sizeLine) (plain : d.params.defaults = []) (room : Room k callerA)
    (F : ∀ (w : World) (mg : Str → Option Value) (fa : Addr) (h : Heap), YP w h → h.Ns mainGlobals mg → mg d.name = some (.ref fa) → ∃ (K : PySem.W.Frag) (fd : FuncData) (sp : Sp), K.In h ∧ (∀ (s : Shared) (u : Value), BindsTo s fd ⟨[u], []⟩ [(x, u)]) ∧
      (∀ (H : Hp) (a : Addr) (ns : List Int), ns.length ≤ n → Only H → SqL K H a (ns.map V.int) → sp [.ref a] H (fun v _ => v = .bl true) fun _ _ _ => False) ∧ ∀ base : Heap, K.In base → base.Ns mainGlobals mg → FnG l.prog w K mg base k fa fd [x] sp) :
    PySem.W.WalkO q loose XP YP l.row.toRowW d [] (fun f vs => PySem.call f vs) :=
  Att.attach_call most plain fun w s₀ s₁ mg mb fa o pm cd doc a vs ns G Y ho hd hcd hmg hobj hints hlen hg => by
    obtain ⟨K, fd, sp, KX, bind, asks, prom⟩ := F w mg fa _ Y G.T.g hmg
    exact callG KX G.T.g G.T.b G.T.builtins G.T.nolimit hg hobj hints (Nat.le_trans hlen line) room prom bind (fun H only sq => asks H a ns hlen only sq) fun H e t' z => z
end Z

set_option linter.all false
set_option autoImplicit false
set_option Elab.async false
set_option maxRecDepth 100000
/-! Z, part 21: loops and comprehensions, for pure laws. -/
namespace Z
open PySem (Str)
theorem forF_list {g : D → Env → Option Env} {b : Env → Option (Out × Env)} (P : Nat → Env → Prop) : ∀ (ds : List D) (k : Nat) {ρ0 : Env}, P k ρ0 → (∀ i ρ (h : i < ds.length), P (k + i) ρ → ∃ ρ1 ρ2, g ds[i] ρ = some ρ1 ∧ b ρ1 = some (.nxt, ρ2) ∧ P (k + i + 1) ρ2) →
    ∃ ρF, forF g b ds ρ0 = some (.nxt, ρF) ∧ P (k + ds.length) ρF
  | [], k, ρ0, h0, _ => ⟨ρ0, rfl, h0⟩
  | d :: ds, k, ρ0, h0, st => by
    obtain ⟨ρ1, ρ2, e1, e2, p⟩ := st 0 ρ0 (by simp) h0
    obtain ⟨ρF, e3, q⟩ := forF_list P ds (k + 1) (ρ0 := ρ2) p fun i ρ h p => by
      have := st (i + 1) ρ (by simpa using h) (by rw [show k + (i + 1) = k + 1 + i by omega]; exact p)
      rw [show k + (i + 1) + 1 = k + 1 + i + 1 by omega] at this
      simpa using this
    refine ⟨ρF, ?_, by rw [List.length_cons, show k + (ds.length + 1) = k + 1 + ds.length by omega]; exact q⟩
    have e1 : g d ρ0 = some ρ1 := e1
    unfold forF
    rw [e1]
    dsimp only
    rw [e2]
    exact e3
theorem rngN_length (n : Nat) (lo : Int) : (rngN lo n).length = n := by unfold rngN; simp
theorem rngN_get (n : Nat) (lo : Int) (i : Nat) (h : i < (rngN lo n).length) : (rngN lo n)[i] = .int (lo + i) := (List.getElem_map (fun (k : Nat) => D.int (lo + (k : Int))) (h := h)).trans (by rw [List.getElem_range])
theorem forF_rng {g : D → Env → Option Env} {b : Env → Option (Out × Env)} {lo : Int} {n : Nat} {ρ0 : Env} (P : Nat → Env → Prop) (h0 : P 0 ρ0) (st : ∀ i ρ, i < n → P i ρ → ∃ ρ1 ρ2, g (.int (lo + i)) ρ = some ρ1 ∧ b ρ1 = some (.nxt, ρ2) ∧ P (i + 1) ρ2) :
    ∃ ρF, forF g b (rngN lo n) ρ0 = some (.nxt, ρF) ∧ P n ρF := by
  have := forF_list (g := g) (b := b) P (rngN lo n) 0 h0 fun i ρ h p => by
    rw [rngN_get]
    have := st i ρ (by rwa [rngN_length] at h) (by simpa using p)
    simpa using this
  simpa [rngN_length] using this
theorem compF_list {ck : Env → Bool} {own : List Nat} {g : D → Env → Option Env} {t : Env → Option (Bool × Env)} {e : Env → Option (RV × Env)} (P : Nat → Env → List D → Prop) : ∀ (ds : List D) (k : Nat) {ρ0 : Env} {acc : List D}, P k ρ0 acc →
    (∀ i ρ acc (h : i < ds.length), P (k + i) ρ acc → ∃ ρ1 ρ2 b, g ds[i] (wipeE ρ own) = some ρ1 ∧ t ρ1 = some (b, ρ2) ∧ ((b = false ∧ ck ρ2 = true ∧ P (k + i + 1) ρ2 acc) ∨ (b = true ∧ ∃ rv ρ3 x ρ4, e ρ2 = some (rv, ρ3) ∧ stl ρ3 rv = some (x, ρ4) ∧ ck ρ4 = true ∧ P (k + i + 1) ρ4 (acc ++ [x])))) →
    ∃ ρF accF, compF ck own g t e ds acc ρ0 = some (accF, ρF) ∧ P (k + ds.length) ρF accF
  | [], k, ρ0, acc, h0, _ => ⟨ρ0, acc, rfl, h0⟩
  | d :: ds, k, ρ0, acc, h0, st => by
    obtain ⟨ρ1, ρ2, b, e1, e2, h⟩ := st 0 ρ0 acc (by simp) h0
    have st' : ∀ i ρ acc (h : i < ds.length), P (k + 1 + i) ρ acc → ∃ ρ1 ρ2 b, g ds[i] (wipeE ρ own) = some ρ1 ∧ t ρ1 = some (b, ρ2) ∧ ((b = false ∧ ck ρ2 = true ∧ P (k + 1 + i + 1) ρ2 acc) ∨ (b = true ∧ ∃ rv ρ3 x ρ4, e ρ2 = some (rv, ρ3) ∧ stl ρ3 rv = some (x, ρ4) ∧ ck ρ4 = true ∧ P (k + 1 + i + 1) ρ4 (acc ++ [x]))) := fun i ρ acc h p => by
      have := st (i + 1) ρ acc (by simpa using h) (by rw [show k + (i + 1) = k + 1 + i by omega]; exact p)
      rw [show k + (i + 1) + 1 = k + 1 + i + 1 by omega] at this
      simpa using this
    have e1 : g d (wipeE ρ0 own) = some ρ1 := e1
    rcases h with ⟨rfl, c, p⟩ | ⟨rfl, rv, ρ3, x, ρ4, e3, e4, c, p⟩
    · obtain ⟨ρF, accF, q1, q2⟩ := compF_list P ds (k + 1) (ρ0 := ρ2) (acc := acc) p st'
      refine ⟨ρF, accF, ?_, by rw [List.length_cons, show k + (ds.length + 1) = k + 1 + ds.length by omega]; exact q2⟩
      unfold compF
      rw [e1]
      dsimp only
      rw [e2]
      dsimp only
      rw [if_pos c]
      exact q1
    · obtain ⟨ρF, accF, q1, q2⟩ := compF_list P ds (k + 1) (ρ0 := ρ4) (acc := acc ++ [x]) p st'
      refine ⟨ρF, accF, ?_, by rw [List.length_cons, show k + (ds.length + 1) = k + 1 + ds.length by omega]; exact q2⟩
      unfold compF
      rw [e1]
      dsimp only
      rw [e2]
      dsimp only
      rw [e3]
      dsimp only
      rw [e4]
      dsimp only
      rw [if_pos c]
      exact q1
theorem compF_rng {ck : Env → Bool} {own : List Nat} {g : D → Env → Option Env} {t : Env → Option (Bool × Env)} {e : Env → Option (RV × Env)} {lo : Int} {n : Nat} {ρ0 : Env} (P : Nat → Env → List D → Prop) (h0 : P 0 ρ0 [])
    (st : ∀ i ρ acc, i < n → P i ρ acc → ∃ ρ1 ρ2 b, g (.int (lo + i)) (wipeE ρ own) = some ρ1 ∧ t ρ1 = some (b, ρ2) ∧ ((b = false ∧ ck ρ2 = true ∧ P (i + 1) ρ2 acc) ∨ (b = true ∧ ∃ rv ρ3 x ρ4, e ρ2 = some (rv, ρ3) ∧ stl ρ3 rv = some (x, ρ4) ∧ ck ρ4 = true ∧ P (i + 1) ρ4 (acc ++ [x])))) :
    ∃ ρF accF, compF ck own g t e (rngN lo n) [] ρ0 = some (accF, ρF) ∧ P n ρF accF := by
  have := compF_list (ck := ck) (own := own) (g := g) (t := t) (e := e) P (rngN lo n) 0 h0 fun i ρ acc h p => by
    rw [rngN_get]
    have := st i ρ acc (by rwa [rngN_length] at h) (by simpa using p)
    simpa using this
  simpa [rngN_length] using this
theorem svs_cons {C : Cf} {s : Sx} {ss : Sxs} {ρ ρ1 : Env} (h : sv C s ρ = some (.nxt, ρ1)) : svs C (.cons s ss) ρ = svs C ss ρ1 := by rw [svs, h]
theorem callF_ret {W n : Nat} {Γ : Str → Option Fn} {f : Str} {F : Fn} {ds : List D} {r : RV} {ρ : Env} (h : Γ f = some F) (hl : ds.length = F.params) (e : svs ⟨callF W Γ n, W⟩ F.body (entry F ds) = some (.ret r, ρ)) : callF W Γ (n + 1) f ds = leave F r ρ := by
  rw [callF, h]; dsimp only; rw [if_pos hl, e]
theorem callF_nxt {W n : Nat} {Γ : Str → Option Fn} {f : Str} {F : Fn} {ds : List D} {ρ : Env} (h : Γ f = some F) (hl : ds.length = F.params) (e : svs ⟨callF W Γ n, W⟩ F.body (entry F ds) = some (.nxt, ρ)) : callF W Γ (n + 1) f ds = leave F (.val .non) ρ := by
  rw [callF, h]; dsimp only; rw [if_pos hl, e]
end Z
namespace Z
section
variable {i j : Int}
theorem bop_add : bop .Add (.int i) (.int j) = some (.val (.int (i + j))) := rfl
theorem bop_sub : bop .Sub (.int i) (.int j) = some (.val (.int (i - j))) := rfl
theorem bop_mulR (h : j.natAbs < 18446744073709551616) : bop .Mult (.int i) (.int j) = some (.val (.int (i * j))) := by
  show (if _ then _ else _) = _
  rw [if_pos (.inr (.inl h))]
theorem bop_mulL (h : i.natAbs < 18446744073709551616) : bop .Mult (.int i) (.int j) = some (.val (.int (i * j))) := by
  show (if _ then _ else _) = _
  rw [if_pos (.inl h)]
theorem bop_mulW (h : i.natAbs < 2 ^ 40000) (h2 : j.natAbs < 2 ^ 40000) : bop .Mult (.int i) (.int j) = some (.val (.int (i * j))) := by
  show (if _ then _ else _) = _
  rw [if_pos (.inr (.inr ⟨h, h2⟩))]
theorem DW_ge : 18446744073709551616 ≤ DW := Nat.le_trans (by decide : 18446744073709551616 ≤ 2 ^ 64) (Nat.pow_le_pow_right (by decide) (by decide))
theorem bop_div (h : 0 < j) (h2 : j.natAbs < 18446744073709551616) : bop .FloorDiv (.int i) (.int j) = some (.val (.int (i.fdiv j))) := by
  show (if _ then _ else _) = _
  rw [if_pos ⟨h, Nat.lt_of_lt_of_le h2 DW_ge⟩]
theorem bop_divW (h : 0 < j) (h2 : j.natAbs < DW) : bop .FloorDiv (.int i) (.int j) = some (.val (.int (i.fdiv j))) := by
  show (if _ then _ else _) = _
  rw [if_pos ⟨h, h2⟩]
theorem bop_mod (h : 0 < j) : bop .Mod (.int i) (.int j) = some (.val (.int (i.fmod j))) := by
  show (if _ then _ else _) = _
  rw [if_pos h]
theorem bfv_divmod (h : 0 < j) (h2 : j.natAbs < 18446744073709551616) : bfv .divmod [.int i, .int j] = some (.val (.tup [.int (i.fdiv j), .int (i.fmod j)])) := by
  show (if _ then _ else _) = _
  rw [if_pos ⟨h, Nat.lt_of_lt_of_le h2 DW_ge⟩]
theorem pow_1018 : bop .Pow (.int 10) (.int 18) = some (.val (.int 1000000000000000000)) := by
  have : bop .Pow (.int 10) (.int 18) = (if (0 : Int) ≤ 18 ∧ (18 : Int) ≤ 100000 ∧ (10 : Int).natAbs < BB then some (.val (.int ((10 : Int) ^ (18 : Int).toNat))) else none) := rfl
  rw [this, if_pos ⟨by decide, by decide, by decide⟩]
  rfl
theorem cop_lt : cop .Lt (.int i) (.int j) = some (decide (i < j)) := rfl
theorem cop_gt : cop .Gt (.int i) (.int j) = some (decide (j < i)) := rfl
theorem cop_le : cop .LtE (.int i) (.int j) = some (decide (i ≤ j)) := rfl
theorem cop_ge : cop .GtE (.int i) (.int j) = some (decide (j ≤ i)) := rfl
theorem cop_eq : cop .Eq (.int i) (.int j) = some (decide (i = j)) := by
  have h : ((D.int i).fl && (D.int j).fl) = true := rfl
  have : cop .Eq (.int i) (.int j) = (if ((D.int i).fl && (D.int j).fl) = true then some (D.eqv (.int i) (.int j)) else none) := rfl
  rw [this, if_pos h]
  rfl
theorem cop_ne : cop .NotEq (.int i) (.int j) = some (!decide (i = j)) := by
  have h : ((D.int i).fl && (D.int j).fl) = true := rfl
  have : cop .NotEq (.int i) (.int j) = (if ((D.int i).fl && (D.int j).fl) = true then some (!D.eqv (.int i) (.int j)) else none) := rfl
  rw [this, if_pos h]
  rfl
end
end Z
namespace Z
/-! parts that stay closed -/
def Lb (C : Cf) (b : Sxs) (ρ : Env) : Option (Out × Env) := svs C b ρ
def Lg (C : Cf) (g : Tg) (d : D) (ρ : Env) : Option Env := gv C g d ρ
def Lt (C : Cf) (t : Tx) (ρ : Env) : Option (Bool × Env) := tv C t ρ
def Lts (C : Cf) (t : Txs) (ρ : Env) : Option (Bool × Env) := tvs C t ρ
def Le (C : Cf) (e : Ex) (ρ : Env) : Option (RV × Env) := ev C e ρ
theorem sv_for (C : Cf) (g : Tg) (it : It) (b : Sxs) (ρ : Env) : sv C (.for_ g it b) ρ = (match itv C it ρ with
    | some (ds, rs, ρ1) => (match stls ρ1 rs with
      | some ρ2 => forF (Lg C g) (Lb C b) ds ρ2
      | none => none)
    | none => none) := sv.eq_9 C ρ g it b
theorem sv_whl (C : Cf) (c : Tx) (b : Sxs) (ρ : Env) : sv C (.whl c b) ρ = whlF (Lt C c) (Lb C b) C.W ρ := sv.eq_8 C ρ c b
theorem ev_comp (C : Cf) (e : Ex) (g : Tg) (it : It) (c : Txs) (own : List Nat) (ρ : Env) : ev C (.comp e g it c own) ρ = (match itv C it ρ with
    | some (ds, rs, ρ1) => if noCell ρ1 own && decide (ds.length ≤ LL) then (match compF (ckOf ρ1 rs) own (Lg C g) (Lts C c) (Le C e) ds [] ρ1 with
      | some (acc, ρ2) => some (.new (.lst acc), restore ρ1 ρ2 own)
      | none => none) else none
    | none => none) := ev.eq_27 C ρ e g it c own
theorem ev_dcomp (C : Cf) (k v : Ex) (g : Tg) (it : It) (c : Txs) (own : List Nat) (ρ : Env) : ev C (.dcomp k v g it c own) ρ = (match itv C it ρ with
    | some (ds, rs, ρ1) => if noCell ρ1 own && decide (ds.length ≤ LL) then (match dcompF (ckOf ρ1 rs) own (Lg C g) (Lts C c) (Le C k) (Le C v) ds [] ρ1 with
      | some (acc, ρ2) => some (.new (.dic acc), restore ρ1 ρ2 own)
      | none => none) else none
    | none => none) := ev.eq_28 C ρ k v g it c own
end Z
namespace Z
def InR (i : Int) : Prop := i.natAbs ≤ LL
instance (i : Int) : Decidable (InR i) := inferInstanceAs (Decidable (i.natAbs ≤ LL))
theorem inR {i : Int} (h : -16000000 ≤ i) (h2 : i ≤ 16000000) : InR i := by
  show i.natAbs ≤ 16000000
  omega
theorem itv_rng1 (C : Cf) (a : Ex) (ρ : Env) : itv C (.rng1 a) ρ = (match ev C a ρ with
    | some (.val (.int n), ρ1) => if InR n then some (rngN 0 n.toNat, [], ρ1) else none
    | _ => none) := by
  simp only [itv]
  rfl
theorem itv_rng2 (C : Cf) (a b : Ex) (ρ : Env) : itv C (.rng2 a b) ρ = (match ev C a ρ with
    | some (.val (.int lo), ρ1) => (match ev C b ρ1 with
      | some (.val (.int hi), ρ2) => if InR lo then if InR hi then some (rngN lo (hi - lo).toNat, [], ρ2) else none else none
      | _ => none)
    | _ => none) := by
  simp only [itv]
  generalize ev C a ρ = ea
  rcases ea with _ | ⟨r, ρ1⟩
  · rfl
  · cases r with
    | val d => cases d with
      | int lo =>
        dsimp only
        generalize ev C b ρ1 = eb
        rcases eb with _ | ⟨r2, ρ2⟩
        · rfl
        · cases r2 with
          | val d2 => cases d2 with
            | int hi =>
              dsimp only
              by_cases h1 : InR lo
              · by_cases h2 : InR hi
                · rw [if_pos ⟨h1, h2⟩, if_pos h1, if_pos h2]
                · rw [if_neg fun z => h2 z.2, if_pos h1, if_neg h2]
              · rw [if_neg fun z => h1 z.1, if_neg h1]
            | _ => rfl
          | _ => rfl
      | _ => rfl
    | _ => rfl
theorem itv_seq (C : Cf) (e : Ex) (ρ : Env) : itv C (.seq e) ρ = (match ev C e ρ with
    | some (r, ρ1) => (match items ρ1 r with
      | some ds => some (ds, [r], ρ1)
      | none => keysOf ρ1 r)
    | none => none) := by simp only [itv]; try rfl
theorem itv_enum (C : Cf) (e : Ex) (ρ : Env) : itv C (.enum e) ρ = (match ev C e ρ with
    | some (r, ρ1) => (match rd ρ1 r with
      | some (.lst xs) => some (enumD 0 xs, [r], ρ1)
      | _ => none)
    | none => none) := by simp only [itv]; try rfl
end Z
namespace Z
theorem callF_go {W n : Nat} {Γ : PySem.Str → Option Fn} {f : PySem.Str} {p s : Nat} {mu : Bool} {b : Sxs} {ds : List D} (h : Γ f = some ⟨p, s, mu, b⟩) (hl : ds.length = p) :
    callF W Γ (n + 1) f ds = (match svs ⟨callF W Γ n, W⟩ b (entry ⟨p, s, mu, b⟩ ds) with
      | some (.ret r, ρ) => leave ⟨p, s, mu, b⟩ r ρ
      | some (.nxt, ρ) => leave ⟨p, s, mu, b⟩ (.val .non) ρ
      | _ => none) := by
  rw [callF, h]
  dsimp only
  rw [if_pos hl]
  try rfl
end Z
namespace Z
theorem enumP_len : ∀ (xs : List D) (k : Nat), (enumD k xs).length = xs.length
  | [], _ => rfl
  | _ :: xs, k => congrArg Nat.succ (enumP_len xs (k + 1))
theorem enumP_get : ∀ (xs : List D) (k i : Nat) (h : i < (enumD k xs).length), (enumD k xs)[i] = .tup [.int (k + i : Nat), xs[i]'(by rwa [enumP_len] at h)]
  | [], _, _, h => by simp [enumD] at h
  | x :: xs, k, 0, h => rfl
  | x :: xs, k, i + 1, h => by
    have := enumP_get xs (k + 1) i (by simpa [enumD] using h)
    simp only [enumD, List.getElem_cons_succ, this]
    rw [show k + 1 + i = k + (i + 1) by omega]
theorem intsOf_map : ∀ l : List Int, intsOf (l.map .int) = some l
  | [] => rfl
  | i :: l => by simp [intsOf, intsOf_map l]
theorem same_ints : ∀ l : List Int, D.sames (l.map .int) (l.map .int) = true
  | [] => rfl
  | i :: l => by simp [D.sames, D.same, same_ints l]
/-- the values of a comprehension, in order -/
theorem range_map_succ {α : Type} (f : Nat → α) (k : Nat) : (List.range (k + 1)).map f = (List.range k).map f ++ [f k] := by rw [List.range_succ, List.map_append]; rfl
end Z
namespace Z
/-- a comprehension whose turns leave all but its own names -/
theorem comp_gen {C : Cf} {e : Ex} {g : Tg} {it : It} {c : Txs} {own : List Nat} {ρ ρ1 : Env} {rs : List RV} {α : Type} (xs : List α) (enc : α → D) (bnd : α → Env) (p : α → Bool) (out : α → D)
    (hit : itv C it ρ = some (xs.map enc, rs, ρ1)) (hno : noCell ρ1 own = true) (hlen : xs.length ≤ LL) (hw : ∀ x, wipeE (bnd x) own = wipeE ρ1 own) (hr : ∀ x, restore ρ1 (bnd x) own = ρ1) (hr0 : restore ρ1 ρ1 own = ρ1)
    (hg : ∀ x ∈ xs, Lg C g (enc x) (wipeE ρ1 own) = some (bnd x)) (ht : ∀ x ∈ xs, Lts C c (bnd x) = some (p x, bnd x)) (he : ∀ x ∈ xs, p x = true → ∃ rv, Le C e (bnd x) = some (rv, bnd x) ∧ stl (bnd x) rv = some (out x, bnd x)) (hck : ∀ x ∈ xs, ckOf ρ1 rs (bnd x) = true) :
    ev C (.comp e g it c own) ρ = some (.new (.lst ((xs.filter p).map out)), ρ1) := by
  have key : ∀ (ys : List α) (acc : List D) (ρ0 : Env), (∀ y ∈ ys, y ∈ xs) → wipeE ρ0 own = wipeE ρ1 own → restore ρ1 ρ0 own = ρ1 →
      ∃ ρF, compF (ckOf ρ1 rs) own (Lg C g) (Lts C c) (Le C e) (ys.map enc) acc ρ0 = some (acc ++ (ys.filter p).map out, ρF) ∧ restore ρ1 ρF own = ρ1 := by
    intro ys
    induction ys with
    | nil => intro acc ρ0 _ _ h; exact ⟨ρ0, by simp [compF], h⟩
    | cons y ys ih =>
      intro acc ρ0 hm hw0 _
      have hy := hm y List.mem_cons_self
      have hm' : ∀ z ∈ ys, z ∈ xs := fun z hz => hm z (List.mem_cons_of_mem _ hz)
      rw [List.map_cons]
      unfold compF
      rw [hw0, hg y hy]
      dsimp only
      rw [ht y hy]
      cases hp : p y with
      | false =>
        dsimp only
        rw [if_pos (hck y hy)]
        obtain ⟨ρF, e1, e2⟩ := ih acc (bnd y) hm' (hw y) (hr y)
        exact ⟨ρF, by rw [e1, List.filter_cons_of_neg (by simp [hp])], e2⟩
      | true =>
        dsimp only
        obtain ⟨rv, e3, e4⟩ := he y hy hp
        rw [e3]
        dsimp only
        rw [e4]
        dsimp only
        rw [if_pos (hck y hy)]
        obtain ⟨ρF, e1, e2⟩ := ih (acc ++ [out y]) (bnd y) hm' (hw y) (hr y)
        exact ⟨ρF, by rw [e1, List.filter_cons_of_pos hp, List.map_cons, List.append_assoc]; rfl, e2⟩
  rw [ev_comp, hit]
  dsimp only
  rw [hno, Bool.true_and, if_pos (by simpa using hlen)]
  obtain ⟨ρF, e1, e2⟩ := key xs [] ρ1 (fun _ h => h) rfl hr0
  rw [e1]
  dsimp only
  rw [e2, List.nil_append]
/-- the same without a filter -/
theorem comp_all {C : Cf} {e : Ex} {g : Tg} {it : It} {own : List Nat} {ρ ρ1 : Env} {rs : List RV} {α : Type} (xs : List α) (enc : α → D) (bnd : α → Env) (out : α → D)
    (hit : itv C it ρ = some (xs.map enc, rs, ρ1)) (hno : noCell ρ1 own = true) (hlen : xs.length ≤ LL) (hw : ∀ x, wipeE (bnd x) own = wipeE ρ1 own) (hr : ∀ x, restore ρ1 (bnd x) own = ρ1) (hr0 : restore ρ1 ρ1 own = ρ1)
    (hg : ∀ x ∈ xs, Lg C g (enc x) (wipeE ρ1 own) = some (bnd x)) (he : ∀ x ∈ xs, ∃ rv, Le C e (bnd x) = some (rv, bnd x) ∧ stl (bnd x) rv = some (out x, bnd x)) (hck : ∀ x ∈ xs, ckOf ρ1 rs (bnd x) = true) :
    ev C (.comp e g it .yes own) ρ = some (.new (.lst (xs.map out)), ρ1) := by
  have := comp_gen (c := .yes) xs enc bnd (fun _ => true) out hit hno hlen hw hr hr0 hg (fun x _ => by simp [Lts, tvs]) (fun x h _ => he x h) hck
  rwa [List.filter_eq_self.mpr (fun _ _ => rfl)] at this
/-- a loop that goes through all -/
theorem for_fold {g : D → Env → Option Env} {b : Env → Option (Out × Env)} {α σ : Type} (enc : α → D) (st : σ → α → σ) (env : σ → Env) : ∀ (xs : List α) (s0 : σ), (∀ s, ∀ x ∈ xs, ∃ ρ1, g (enc x) (env s) = some ρ1 ∧ b ρ1 = some (.nxt, env (st s x))) →
    forF g b (xs.map enc) (env s0) = some (.nxt, env (xs.foldl st s0))
  | [], s0, _ => rfl
  | x :: xs, s0, h => by
    obtain ⟨ρ1, e1, e2⟩ := h s0 x List.mem_cons_self
    rw [List.map_cons]
    unfold forF
    rw [e1]
    dsimp only
    rw [e2]
    dsimp only
    exact for_fold enc st env xs (st s0 x) fun s y hy => h s y (List.mem_cons_of_mem _ hy)
theorem rngN_map (lo : Int) (n : Nat) : rngN lo n = (List.range n).map fun (k : Nat) => D.int (lo + (k : Int)) := rfl
/-- a while loop, by its steps -/
def steps {σ : Type} (go : σ → Option σ) : Nat → σ → Option σ
  | 0, s => match go s with
    | none => some s
    | some _ => none
  | n + 1, s => match go s with
    | none => some s
    | some s' => steps go n s'
theorem whl_steps {t : Env → Option (Bool × Env)} {b : Env → Option (Out × Env)} {σ : Type} (env : σ → Env) (go : σ → Option σ) (Inv : σ → Prop) (hstop : ∀ s, Inv s → go s = none → t (env s) = some (false, env s))
    (hgo : ∀ s s', Inv s → go s = some s' → t (env s) = some (true, env s) ∧ b (env s) = some (.nxt, env s') ∧ Inv s') : ∀ (n W : Nat) (s sF : σ), Inv s → steps go n s = some sF → n < W → whlF t b W (env s) = some (.nxt, env sF)
  | n, 0, s, sF, _, _, h => absurd h (Nat.not_lt_zero _)
  | 0, W + 1, s, sF, hi, hs, _ => by
    unfold steps at hs
    unfold whlF
    split at hs
    · rename_i e
      cases hs
      rw [hstop s hi e]
    · cases hs
  | n + 1, W + 1, s, sF, hi, hs, h => by
    unfold steps at hs
    unfold whlF
    split at hs
    · rename_i e
      cases hs
      rw [hstop s hi e]
    · rename_i s' e
      obtain ⟨h1, h2, h3⟩ := hgo s s' hi e
      rw [h1]
      dsimp only
      rw [h2]
      dsimp only
      exact whl_steps env go Inv hstop hgo n W s' sF h3 hs (by omega)
end Z
namespace Z
theorem bfv_divmodW {i j : Int} (h : 0 < j) (h2 : j.natAbs < DW) : bfv .divmod [.int i, .int j] = some (.val (.tup [.int (i.fdiv j), .int (i.fmod j)])) := by
  show (if _ then _ else _) = _
  rw [if_pos ⟨h, h2⟩]
theorem place_nat {n i : Nat} (h : i < n) : place n (i : Int) = some i := by
  unfold place
  rw [if_pos (by omega), if_pos (by omega)]
  rfl
theorem sub_lst {xs : List D} {i : Nat} (h : i < xs.length) : sub (.lst xs) (.int i) = some xs[i] := by
  show (match place xs.length (i : Int) with
    | some j => xs[j]?
    | none => none) = _
  rw [place_nat h]
  dsimp only
  rw [List.getElem?_eq_getElem h]
theorem sub_tup {xs : List D} {i : Nat} (h : i < xs.length) : sub (.tup xs) (.int i) = some xs[i] := by
  show (match place xs.length (i : Int) with
    | some j => xs[j]?
    | none => none) = _
  rw [place_nat h]
  dsimp only
  rw [List.getElem?_eq_getElem h]
end Z
namespace Z
theorem for_foldI {g : D → Env → Option Env} {b : Env → Option (Out × Env)} {α σ : Type} (enc : α → D) (st : σ → α → σ) (env : σ → Env) (Inv : Nat → σ → Prop) : ∀ (xs : List α) (k : Nat) (s0 : σ), Inv k s0 →
    (∀ i s x, x ∈ xs → k ≤ i → i < k + xs.length → Inv i s → (∃ ρ1, g (enc x) (env s) = some ρ1 ∧ b ρ1 = some (.nxt, env (st s x))) ∧ Inv (i + 1) (st s x)) →
    forF g b (xs.map enc) (env s0) = some (.nxt, env (xs.foldl st s0)) ∧ Inv (k + xs.length) (xs.foldl st s0)
  | [], k, s0, h0, _ => ⟨rfl, h0⟩
  | x :: xs, k, s0, h0, h => by
    obtain ⟨⟨ρ1, e1, e2⟩, h1⟩ := h k s0 x List.mem_cons_self (Nat.le_refl _) (by rw [List.length_cons]; omega) h0
    rw [List.map_cons]
    unfold forF
    rw [e1]
    dsimp only
    rw [e2]
    dsimp only
    have := for_foldI enc st env Inv xs (k + 1) (st s0 x) h1 fun i s y hy h2 h3 h4 => h i s y (List.mem_cons_of_mem _ hy) (by omega) (by rw [List.length_cons]; omega) h4
    rw [List.length_cons, show k + (xs.length + 1) = k + 1 + xs.length by omega]
    exact this
theorem cut_pre {α : Type} (xs : List α) (n : Nat) : cut xs none (some (n : Int)) = xs.take n := by
  unfold cut bound
  dsimp only
  rw [if_neg (by omega)]
  simp [List.take_eq_take_iff]
theorem cut_suf {α : Type} (xs : List α) (n : Nat) : cut xs (some (n : Int)) none = xs.drop n := by
  unfold cut bound
  dsimp only
  rw [if_neg (by omega)]
  simp only [Int.toNat_natCast]
  rw [List.take_of_length_le (by rw [List.length_drop]; omega)]
  by_cases h : n ≤ xs.length
  · rw [Nat.min_eq_left h]
  · rw [Nat.min_eq_right (by omega), List.drop_eq_nil_of_le (by omega), List.drop_eq_nil_of_le (by omega)]
theorem bop_lst {xs ys : List D} (h : xs.length + ys.length ≤ 16000000) : bop .Add (.lst xs) (.lst ys) = some (.new (.lst (xs ++ ys))) := by
  show (if _ then _ else _) = _
  have : (16000000 : Nat) = LL := rfl
  rw [if_pos ⟨by omega, by omega, by omega⟩]
theorem bop_tup {xs ys : List D} (h : xs.length + ys.length ≤ 16000000) : bop .Add (.tup xs) (.tup ys) = some (.val (.tup (xs ++ ys))) := by
  show (if _ then _ else _) = _
  have : (16000000 : Nat) = LL := rfl
  rw [if_pos ⟨by omega, by omega, by omega⟩]
end Z
namespace Z
/-- a loop; what else is left in the slots: z -/
theorem for_junk {g : D → Env → Option Env} {b : Env → Option (Out × Env)} {α σ ζ : Type} (enc : α → D) (st : σ → α → σ) (env : σ → ζ → Env) (Inv : Nat → σ → Prop) : ∀ (xs : List α) (k : Nat) (s0 : σ) (z0 : ζ), Inv k s0 →
    (∀ i s z x, x ∈ xs → k ≤ i → i < k + xs.length → Inv i s → (∃ ρ1 z', g (enc x) (env s z) = some ρ1 ∧ b ρ1 = some (.nxt, env (st s x) z')) ∧ Inv (i + 1) (st s x)) →
    ∃ zF, forF g b (xs.map enc) (env s0 z0) = some (.nxt, env (xs.foldl st s0) zF) ∧ Inv (k + xs.length) (xs.foldl st s0)
  | [], k, s0, z0, h0, _ => ⟨z0, rfl, h0⟩
  | x :: xs, k, s0, z0, h0, h => by
    obtain ⟨⟨ρ1, z', e1, e2⟩, h1⟩ := h k s0 z0 x List.mem_cons_self (Nat.le_refl _) (by rw [List.length_cons]; omega) h0
    rw [List.map_cons]
    unfold forF
    rw [e1]
    dsimp only
    rw [e2]
    dsimp only
    have := for_junk enc st env Inv xs (k + 1) (st s0 x) z' h1 fun i s z y hy h2 h3 h4 => h i s z y (List.mem_cons_of_mem _ hy) (by omega) (by rw [List.length_cons]; omega) h4
    rw [List.length_cons, show k + (xs.length + 1) = k + 1 + xs.length by omega]
    exact this
end Z

set_option linter.all false
set_option autoImplicit false
set_option Elab.async false
set_option maxRecDepth 100000
/-! Z, part 22: words, cuts, rows as data; their order; sorting. -/
namespace Z
open PySem (Str)
open PySem.W (dataLt alike alikeAll)
/-! ### lists in order -/
section
variable {α : Type}
def lexB (e l : α → α → Bool) : List α → List α → Bool
  | [], [] => false
  | [], _ :: _ => true
  | _ :: _, [] => false
  | a :: x, b :: y => if e a b = true then lexB e l x y else l a b
/-- a strict order in which unlike ones are before or behind -/
structure Tot (l : α → α → Bool) : Prop where
  irr : ∀ a, l a a = false
  tr : ∀ a b c, l a b = true → l b c = true → l a c = true
  con : ∀ a b, l a b = false → l b a = false → a = b
theorem Tot.asy {l : α → α → Bool} (T : Tot l) {a b : α} (h : l a b = true) : l b a = false := by
  cases q : l b a with
  | false => rfl
  | true => have := T.tr _ _ _ h q; rw [T.irr] at this; cases this
theorem lexB_tot [DecidableEq α] {l : α → α → Bool} (T : Tot l) : Tot (lexB (fun a b => decide (a = b)) l) where
  irr := fun x => by
    induction x with
    | nil => rfl
    | cons a x ih => simp [lexB, ih]
  tr := fun x => by
    induction x with
    | nil =>
      intro y z h g
      cases y with
      | nil => cases h
      | cons b y => cases z with
        | nil => cases g
        | cons c z => rfl
    | cons a x ih =>
      intro y z h g
      cases y with
      | nil => cases h
      | cons b y =>
        cases z with
        | nil => cases g
        | cons c z =>
          simp only [lexB, decide_eq_true_eq] at h g ⊢
          by_cases e1 : a = b
          · subst e1
            rw [if_pos rfl] at h
            by_cases e2 : a = c
            · rw [if_pos e2] at g ⊢
              exact ih y z h g
            · rw [if_neg e2] at g ⊢
              exact g
          · rw [if_neg e1] at h
            by_cases e2 : b = c
            · subst e2
              rw [if_neg e1]
              exact h
            · rw [if_neg e2] at g
              have := T.tr _ _ _ h g
              by_cases e3 : a = c
              · subst e3; rw [T.irr] at this; cases this
              · rw [if_neg e3]; exact this
  con := fun x => by
    induction x with
    | nil => intro y h g; cases y with
      | nil => rfl
      | cons b y => cases h
    | cons a x ih =>
      intro y h g
      cases y with
      | nil => cases g
      | cons b y =>
        simp only [lexB, decide_eq_true_eq] at h g
        by_cases e1 : a = b
        · subst e1
          rw [if_pos rfl] at h g
          rw [ih y h g]
        · rw [if_neg e1] at h
          rw [if_neg (Ne.symm e1)] at g
          exact absurd (T.con _ _ h g) e1
/-- the sorted list -/
def srt (l : α → α → Bool) (xs : List α) : List α := xs.mergeSort fun a b => !l b a
def ins1 (l : α → α → Bool) (x : α) : List α → List α
  | [] => [x]
  | y :: r => if l y x = true then y :: ins1 l x r else x :: y :: r
/-- the same for the kernel -/
def isrt (l : α → α → Bool) : List α → List α
  | [] => []
  | x :: r => ins1 l x (isrt l r)
abbrev Srt (l : α → α → Bool) (xs : List α) : Prop := xs.Pairwise fun a b => l b a = false
theorem Tot.le_trans {l : α → α → Bool} (T : Tot l) {a b c : α} (h : l b a = false) (g : l c b = false) : l c a = false := by
  cases q : l c a with
  | false => rfl
  | true =>
    cases z : l a b with
    | true => have := T.tr _ _ _ q z; rw [g] at this; cases this
    | false =>
      obtain rfl := T.con _ _ h z
      rw [g] at q; cases q
theorem srt_perm (l : α → α → Bool) (xs : List α) : (srt l xs).Perm xs := List.mergeSort_perm _ _
theorem srt_srt {l : α → α → Bool} (T : Tot l) (xs : List α) : Srt l (srt l xs) := by
  have h := List.pairwise_mergeSort (le := fun a b => !l b a) (fun a b c h g => by
    simp only [Bool.not_eq_true'] at h g ⊢
    exact T.le_trans h g) (fun a b => by
    cases q : l b a with
    | false => rfl
    | true => simp [T.asy q]) xs
  exact h.imp fun {a b} h => by simpa using h
theorem ins1_perm (l : α → α → Bool) (x : α) : ∀ r, (ins1 l x r).Perm (x :: r)
  | [] => .refl _
  | y :: r => by
    unfold ins1
    split
    · exact ((ins1_perm l x r).cons y).trans (.swap x y r)
    · exact .refl _
theorem isrt_perm (l : α → α → Bool) : ∀ xs, (isrt l xs).Perm xs
  | [] => .refl _
  | x :: r => (ins1_perm l x _).trans ((isrt_perm l r).cons x)
theorem ins1_srt {l : α → α → Bool} (T : Tot l) (x : α) : ∀ r, Srt l r → Srt l (ins1 l x r)
  | [], _ => List.pairwise_singleton _ _
  | y :: r, h => by
    obtain ⟨h1, h2⟩ := List.pairwise_cons.mp h
    unfold ins1
    split
    · rename_i q
      refine List.pairwise_cons.mpr ⟨fun z hz => ?_, ins1_srt T x r h2⟩
      rcases List.mem_cons.mp ((ins1_perm l x r).mem_iff.mp hz) with rfl | hz
      · exact T.asy q
      · exact h1 z hz
    · rename_i q
      rw [Bool.not_eq_true] at q
      refine List.pairwise_cons.mpr ⟨fun z hz => ?_, h⟩
      rcases List.mem_cons.mp hz with rfl | hz
      · exact q
      · exact T.le_trans q (h1 z hz)
theorem isrt_srt {l : α → α → Bool} (T : Tot l) : ∀ xs, Srt l (isrt l xs)
  | [] => .nil
  | x :: r => ins1_srt T x _ (isrt_srt T r)
theorem srt_uniq {l : α → α → Bool} (T : Tot l) {xs ys : List α} (p : xs.Perm ys) (h : Srt l xs) (g : Srt l ys) : xs = ys :=
  p.eq_of_pairwise (le := fun a b => l b a = false) (fun a b _ _ h1 h2 => T.con a b h2 h1) h g
theorem srt_eq {l : α → α → Bool} (T : Tot l) (xs : List α) : srt l xs = isrt l xs := srt_uniq T ((srt_perm l xs).trans (isrt_perm l xs).symm) (srt_srt T xs) (isrt_srt T xs)
theorem srt_id {l : α → α → Bool} (T : Tot l) {xs : List α} (h : Srt l xs) : srt l xs = xs := srt_uniq T (srt_perm l xs) (srt_srt T xs) h
end
/-! ### words, lists of words -/
abbrev Wd := List Nat
def nlt (a b : Nat) : Bool := decide (a < b)
def wlt : Wd → Wd → Bool := lexB (fun a b => decide (a = b)) nlt
def clt : List Wd → List Wd → Bool := lexB (fun a b => decide (a = b)) wlt
theorem nlt_tot : Tot nlt where
  irr := fun a => by simp [nlt]
  tr := fun a b c h g => by simp only [nlt, decide_eq_true_eq] at *; omega
  con := fun a b h g => by simp only [nlt, decide_eq_false_iff_not] at *; omega
theorem wlt_tot : Tot wlt := lexB_tot nlt_tot
theorem clt_tot : Tot clt := lexB_tot wlt_tot
def nD (n : Nat) : D := .int n
def wD (w : Wd) : D := .tup (w.map nD)
def wsT (ws : List Wd) : D := .tup (ws.map wD)
def wsL (ws : List Wd) : D := .lst (ws.map wD)
/-- how data stand for things of one kind -/
structure Enc {α : Type} [DecidableEq α] (f : α → D) (t : Sh) (l : α → α → Bool) : Prop where
  eq : ∀ a b, D.eqv (f a) (f b) = decide (a = b)
  peq : ∀ a b, PySem.PyData.eqv (f a).py (f b).py = decide (a = b)
  sh : ∀ a, D.isSh (f a) t = true
  lt : ∀ a b, dataLt (f a).py (f b).py = l a b
section
variable {α : Type} [DecidableEq α] {f : α → D} {t : Sh} {l : α → α → Bool}
theorem eqvs_map (h : ∀ a b, D.eqv (f a) (f b) = decide (a = b)) : ∀ x y : List α, D.eqvs (x.map f) (y.map f) = decide (x = y)
  | [], [] => by simp [D.eqvs]
  | [], _ :: _ => by simp [D.eqvs]
  | _ :: _, [] => by simp [D.eqvs]
  | a :: x, b :: y => by simp only [List.map_cons, D.eqvs, h a b, eqvs_map h x y, List.cons.injEq, Bool.decide_and]
theorem all_map (h : ∀ a, D.isSh (f a) t = true) : ∀ x : List α, D.allSh (x.map f) t = true
  | [] => by simp [D.allSh]
  | a :: x => by simp [D.allSh, h a, all_map h x]
theorem pys_map : ∀ x : List D, D.pys x = x.map D.py
  | [] => by simp [D.pys]
  | a :: x => by simp [D.pys, pys_map x]
end
mutual
theorem isSh_alike : ∀ {d e : D} {t : Sh}, D.isSh d t = true → D.isSh e t = true → alike d.py e.py = true
  | .int _, e, .int, _, h => by cases e <;> simp [D.isSh] at h; simp [D.py, alike]
  | .str _, e, .str, _, h => by cases e <;> simp [D.isSh] at h; simp [D.py, alike]
  | .tup ds, e, .sq t, g, h => by
    cases e <;> simp [D.isSh] at h
    rw [D.isSh] at g
    rw [D.py, D.py, alike]; exact isShs_alike g h
  | .lst ds, e, .ls t, g, h => by
    cases e <;> simp [D.isSh] at h
    rw [D.isSh] at g
    rw [D.py, D.py, alike]; exact isShs_alike g h
  | .tup ds, e, .pr a b, g, h => by
    cases e <;> simp [D.isSh] at h
    rw [D.isSh] at g
    rw [D.py, D.py, alike]; exact isShp_alike g h
  | .tup ds, e, .tr a b c, g, h => by
    cases e <;> simp [D.isSh] at h
    rw [D.isSh] at g
    rw [D.py, D.py, alike]; exact isShp_alike g h
  | .non, _, t, h, _ => by simp [D.isSh] at h
  | .bl _, _, t, h, _ => by simp [D.isSh] at h
  | .dic _, _, t, h, _ => by simp [D.isSh] at h
  | .scr _, _, t, h, _ => by simp [D.isSh] at h
  | .int _, _, .str, h, _ => by simp [D.isSh] at h
  | .int _, _, .sq _, h, _ => by simp [D.isSh] at h
  | .int _, _, .ls _, h, _ => by simp [D.isSh] at h
  | .int _, _, .pr _ _, h, _ => by simp [D.isSh] at h
  | .int _, _, .tr _ _ _, h, _ => by simp [D.isSh] at h
  | .str _, _, .int, h, _ => by simp [D.isSh] at h
  | .str _, _, .sq _, h, _ => by simp [D.isSh] at h
  | .str _, _, .ls _, h, _ => by simp [D.isSh] at h
  | .str _, _, .pr _ _, h, _ => by simp [D.isSh] at h
  | .str _, _, .tr _ _ _, h, _ => by simp [D.isSh] at h
  | .tup _, _, .int, h, _ => by simp [D.isSh] at h
  | .tup _, _, .str, h, _ => by simp [D.isSh] at h
  | .tup _, _, .ls _, h, _ => by simp [D.isSh] at h
  | .lst _, _, .int, h, _ => by simp [D.isSh] at h
  | .lst _, _, .str, h, _ => by simp [D.isSh] at h
  | .lst _, _, .sq _, h, _ => by simp [D.isSh] at h
  | .lst _, _, .pr _ _, h, _ => by simp [D.isSh] at h
  | .lst _, _, .tr _ _ _, h, _ => by simp [D.isSh] at h
theorem isShs_alike : ∀ {ds es : List D} {t : Sh}, D.allSh ds t = true → D.allSh es t = true → alikeAll (D.pys ds) (D.pys es) = true
  | [], es, _, _, _ => by rw [D.pys]; simp [alikeAll]
  | _ :: _, [], _, _, _ => by rw [D.pys, D.pys]; simp [alikeAll]
  | d :: ds, e :: es, t, g, h => by
    rw [D.allSh, Bool.and_eq_true] at g h
    rw [D.pys, D.pys, alikeAll, isSh_alike g.1 h.1, isShs_alike g.2 h.2]; rfl
theorem isShp_alike : ∀ {ds es : List D} {ts : List Sh}, D.prSh ds ts = true → D.prSh es ts = true → alikeAll (D.pys ds) (D.pys es) = true
  | [], es, _, _, _ => by rw [D.pys]; simp [alikeAll]
  | _ :: _, [], _, _, _ => by rw [D.pys, D.pys]; simp [alikeAll]
  | d :: ds, e :: es, [], g, _ => by simp [D.prSh] at g
  | d :: ds, e :: es, t :: ts, g, h => by
    rw [D.prSh, Bool.and_eq_true] at g h
    rw [D.pys, D.pys, alikeAll, isSh_alike g.1 h.1, isShp_alike g.2 h.2]; rfl
end
section
variable {α : Type} [DecidableEq α] {f : α → D} {t : Sh} {l : α → α → Bool}
theorem peqs_map (h : ∀ a b, PySem.PyData.eqv (f a).py (f b).py = decide (a = b)) : ∀ x y : List α, PySem.PyData.eqvAll (D.pys (x.map f)) (D.pys (y.map f)) = decide (x = y)
  | [], [] => by simp [D.pys, PySem.PyData.eqvAll]
  | [], _ :: _ => by simp [D.pys, PySem.PyData.eqvAll]
  | _ :: _, [] => by simp [D.pys, PySem.PyData.eqvAll]
  | a :: x, b :: y => by simp only [List.map_cons, D.pys, PySem.PyData.eqvAll, h a b, peqs_map h x y, List.cons.injEq, Bool.decide_and]
theorem lts_map (E : Enc f t l) : ∀ x y : List α, PyProof.Rows.lexLt PyProof.Rows.itemOrd (PySem.W.keyToksAll (D.pys (x.map f))) (PySem.W.keyToksAll (D.pys (y.map f))) = lexB (fun a b => decide (a = b)) l x y
  | [], [] => by simp [D.pys, lexB]; decide +kernel
  | [], b :: y => by simp [D.pys, lexB, PySem.W.keyToksAll]; rfl
  | a :: x, [] => by simp [D.pys, lexB, PySem.W.keyToksAll]; rfl
  | a :: x, b :: y => by
    rw [List.map_cons, List.map_cons, D.pys, D.pys, PySem.W.dataLt_cons (isSh_alike (E.sh a) (E.sh b)), E.peq, lts_map E x y, E.lt]
    rfl
theorem Enc.tup (E : Enc f t l) : Enc (fun xs : List α => D.tup (xs.map f)) (.sq t) (lexB (fun a b => decide (a = b)) l) where
  eq := fun a b => by simp only [D.eqv]; exact eqvs_map E.eq a b
  peq := fun a b => by simp only [D.py, PySem.PyData.eqv]; exact peqs_map E.peq a b
  sh := fun a => by simp only [D.isSh]; exact all_map E.sh a
  lt := fun a b => by simp only [D.py]; rw [PySem.W.dataLt_tuple]; exact lts_map E a b
theorem Enc.lst (E : Enc f t l) : Enc (fun xs : List α => D.lst (xs.map f)) (.ls t) (lexB (fun a b => decide (a = b)) l) where
  eq := fun a b => by simp only [D.eqv]; exact eqvs_map E.eq a b
  peq := fun a b => by simp only [D.py, PySem.PyData.eqv]; exact peqs_map E.peq a b
  sh := fun a => by simp only [D.isSh]; exact all_map E.sh a
  lt := fun a b => by simp only [D.py]; rw [PySem.W.dataLt_list]; exact lts_map E a b
/-- sorted -/
theorem sortD_map (E : Enc f t l) (xs : List α) : sortD (xs.map f) = (srt l xs).map f := by
  unfold sortD srt
  refine (List.map_mergeSort (fun a _ b _ => ?_)).symm
  show (!l b a) = leD (f a) (f b)
  unfold leD
  rw [E.lt]
theorem okS_map (E : Enc f t l) (ht : t ∈ SHS) {xs : List α} (h : ∀ a ∈ xs, (f a).solid = true) : okS (xs.map f) = true := by
  unfold okS
  rw [Bool.or_eq_true]
  right
  refine List.any_eq_true.mpr ⟨t, ht, List.all_eq_true.mpr fun d hd => ?_⟩
  obtain ⟨a, ha, rfl⟩ := List.mem_map.mp hd
  rw [E.sh, h a ha]
  rfl
theorem cop_lt_enc (E : Enc f t l) (ht : t ∈ SHS) (a b : α) (ni : t ≠ .int) : cop .Lt (f a) (f b) = some (l a b) := by
  have h : alk (f a) (f b) = true := List.any_eq_true.mpr ⟨t, ht, by rw [E.sh, E.sh]; rfl⟩
  have : cop .Lt (f a) (f b) = if alk (f a) (f b) = true then some (dataLt (f a).py (f b).py) else none := by
    have hs := E.sh a
    generalize f a = x at hs ⊢
    generalize f b = y
    cases x <;> cases t <;> simp [D.isSh] at hs <;> first | exact absurd rfl ni | (cases y <;> rfl)
  rw [this, if_pos h, E.lt]
end
theorem nD_enc : Enc nD .int nlt where
  eq := fun a b => by
    simp only [nD, D.eqv]
    by_cases h : a = b
    · subst h; simp
    · have : (a : Int) ≠ b := by omega
      simp [h, this]
  peq := fun a b => by
    simp only [nD, D.py, PySem.PyData.eqv]
    by_cases h : a = b
    · subst h; simp
    · have : (a : Int) ≠ b := by omega
      simp [h, this]
  sh := fun a => by simp [nD, D.isSh]
  lt := fun a b => by simp [nD, D.py, PySem.W.dataLt_int, nlt]
theorem wD_enc : Enc wD (.sq .int) wlt := nD_enc.tup
theorem wsT_enc : Enc wsT (.sq (.sq .int)) clt := wD_enc.tup
theorem wsL_enc : Enc wsL (.ls (.sq .int)) clt := wD_enc.lst
/-! keys -/
theorem nks_ints : ∀ w : Wd, ∃ l, nks (w.map nD) = some l ∧ PySem.NestedKey.depthAll l = 0
  | [] => ⟨[], rfl, rfl⟩
  | n :: w => by
    obtain ⟨l, h, d⟩ := nks_ints w
    refine ⟨.num n :: l, ?_, ?_⟩
    · show (match nk (nD n), nks (w.map nD) with | some k, some l => some (k :: l) | _, _ => none) = _
      rw [h]; rfl
    · rw [PySem.NestedKey.depthAll, d]; rfl
theorem nk_wD (w : Wd) : ∃ l, nk (wD w) = some (.tup l) ∧ PySem.NestedKey.depthAll l = 0 := by
  obtain ⟨l, h, d⟩ := nks_ints w
  exact ⟨l, by show (nks (w.map nD)).map _ = _; rw [h]; rfl, d⟩
theorem nkT_wD (w : Wd) : (nkT (wD w)).isSome = true := by
  obtain ⟨l, h, d⟩ := nks_ints w
  show (match nks (w.map nD) with | some l => if PySem.NestedKey.depthAll l < 8 then some (PySem.NestedKey.tup l) else none | none => none).isSome = true
  rw [h]
  dsimp only
  rw [d]
  rfl
theorem nks_words : ∀ ws : List Wd, ∃ l, nks (ws.map wD) = some l ∧ PySem.NestedKey.depthAll l ≤ 1
  | [] => ⟨[], rfl, Nat.zero_le _⟩
  | w :: ws => by
    obtain ⟨l, h, d⟩ := nks_words ws
    obtain ⟨k, h2, d2⟩ := nk_wD w
    refine ⟨.tup k :: l, ?_, ?_⟩
    · show (match nk (wD w), nks (ws.map wD) with | some k, some l => some (k :: l) | _, _ => none) = _
      rw [h, h2]
    · rw [PySem.NestedKey.depthAll, PySem.NestedKey.depth, d2]; omega
theorem nkT_wsT (ws : List Wd) : (nkT (wsT ws)).isSome = true := by
  obtain ⟨l, h, d⟩ := nks_words ws
  show (match nks (ws.map wD) with | some l => if PySem.NestedKey.depthAll l < 8 then some (PySem.NestedKey.tup l) else none | none => none).isSome = true
  rw [h]
  dsimp only
  rw [if_pos (by omega)]
  rfl
end Z
namespace Z
/-! ### splits; dicts of cuts -/
def kids (s : Nat) (w : Wd) : List Wd := (List.range s).map fun i => w ++ [i]
def splitAt' (s : Nat) (ws : List Wd) (k : Nat) : List Wd := ws.take k ++ kids s (ws.getD k []) ++ ws.drop (k + 1)
def addKey (ks : List (List Wd)) (c : List Wd) : List (List Wd) := if c ∈ ks then ks else ks ++ [c]
def dicD (ks : List (List Wd)) : D := .dic (ks.map fun k => (wsT k, .int 1))
theorem keyed_ws (ks : List (List Wd)) : keyed (ks.map fun k => (wsT k, D.int 1)) = true := by
  unfold keyed
  rw [List.all_map]
  exact List.all_eq_true.mpr fun c _ => nkT_wsT c
theorem any_ws (ks : List (List Wd)) (c : List Wd) : ((ks.map fun k => (wsT k, D.int 1)).any fun p => D.eqv p.1 (wsT c)) = decide (c ∈ ks) := by
  induction ks with
  | nil => rfl
  | cons k ks ih =>
    rw [List.map_cons, List.any_cons, ih]
    dsimp only
    rw [wsT_enc.eq]
    by_cases h : k = c
    · subst h; simp
    · have h' : ¬ c = k := fun e => h e.symm
      simp [h, h']
theorem putv_ws {ks : List (List Wd)} {c : List Wd} (h : ks.length < 16000000) : putv (dicD ks) (wsT c) (.int 1) = some (dicD (addKey ks c)) := by
  have hl : (16000000 : Nat) = LL := rfl
  have e : putv (dicD ks) (wsT c) (.int 1) = if (ks.map fun k => (wsT k, D.int 1)).length < LL ∧ ((nkT (wsT c)).isSome && keyed (ks.map fun k => (wsT k, D.int 1))) = true then some (.dic (dput (ks.map fun k => (wsT k, D.int 1)) (wsT c) (.int 1))) else none := rfl
  rw [e, if_pos ⟨by rw [List.length_map]; omega, by rw [nkT_wsT, keyed_ws]; rfl⟩]
  unfold dput dicD addKey
  rw [any_ws]
  by_cases hc : c ∈ ks
  · rw [decide_eq_true hc, if_pos rfl, if_pos hc]
    congr 2
    rw [List.map_map]
    refine List.map_congr_left fun k _ => ?_
    dsimp only [Function.comp_apply]
    split <;> rfl
  · rw [decide_eq_false hc, if_neg (by decide), if_neg hc, List.map_append]
    rfl
theorem addKey_len (ks : List (List Wd)) (c : List Wd) : (addKey ks c).length ≤ ks.length + 1 := by
  unfold addKey
  split
  · omega
  · rw [List.length_append]; exact Nat.le_refl _
def nextCuts (s : Nat) (ks : List (List Wd)) : List (List Wd) := ks.foldl (fun acc c => (List.range c.length).foldl (fun acc k => addKey acc (splitAt' s c k)) acc) []
def cutsN (s : Nat) : Nat → List (List Wd)
  | 0 => [[[]]]
  | n + 1 => nextCuts s (cutsN s n)
def allCuts (s n : Nat) : List (List Wd) := isrt clt (cutsN s n)
theorem isSome_nkT_tup (w : Wd) : (nkT (.tup (w.map nD))).isSome = true := nkT_wD w
end Z
namespace Z
def slO : Option D → Sl
  | none => .no
  | some d => .val d
theorem sorted_dicD {ks : List (List Wd)} (h : ks ≠ []) (h0 : ∀ c ∈ ks, c ≠ []) : bfv .sorted [dicD ks] = some (.new (.lst ((isrt clt ks).map wsT))) := by
  have e : bfv .sorted [dicD ks] = if keyed (ks.map fun k => (wsT k, D.int 1)) && !(ks.map fun k => (wsT k, D.int 1)).isEmpty && okS ((ks.map fun k => (wsT k, D.int 1)).map (·.1)) then some (.new (.lst (sortD ((ks.map fun k => (wsT k, D.int 1)).map (·.1))))) else none := rfl
  have hm : (ks.map fun k => (wsT k, D.int 1)).map (·.1) = ks.map wsT := by rw [List.map_map]; rfl
  have he : (ks.map fun k => (wsT k, D.int 1)).isEmpty = false := by cases ks with
    | nil => exact absurd rfl h
    | cons => rfl
  have ok : okS (ks.map wsT) = true := okS_map wsT_enc (by simp [SHS]) fun c hc => by
    have := h0 c hc
    cases c with
    | nil => exact absurd rfl this
    | cons => rfl
  rw [e, keyed_ws, he, hm, ok, sortD_map wsT_enc, srt_eq clt_tot]
  rfl
end Z
namespace Z
/-! ### lists of numbers -/
def nL (l : List Nat) : D := .lst (l.map nD)
theorem intsOf_nD : ∀ l : List Nat, intsOf (l.map nD) = some (l.map fun (n : Nat) => (n : Int))
  | [] => rfl
  | n :: l => by
    show (intsOf (l.map nD)).map _ = _
    rw [intsOf_nD l]
    rfl
theorem sum_cast : ∀ l : List Nat, (l.map fun (n : Nat) => (n : Int)).sum = ((l.sum : Nat) : Int)
  | [] => rfl
  | n :: l => by rw [List.map_cons, List.sum_cons, List.sum_cons, sum_cast l, Int.natCast_add]
theorem sum_nD (l : List Nat) : bfv .sum [.lst (l.map nD)] = some (.val (.int (l.sum : Nat))) := by
  have : bfv .sum [.lst (l.map nD)] = (intsOf (l.map nD)).map fun l => RV.val (.int l.sum) := rfl
  rw [this, intsOf_nD, Option.map_some, sum_cast]
theorem sub_nL {l : List Nat} {i : Nat} (h : i < l.length) : sub (.lst (l.map nD)) (.int i) = some (.int (l.getD i 0 : Nat)) := by
  rw [sub_lst (by rwa [List.length_map]), List.getElem_map, List.getD_eq_getElem?_getD, List.getElem?_eq_getElem h]
  rfl
def cv (row other : List Nat) (a : Nat) : Nat := (((List.range (a + 1)).filter fun i => decide (i < row.length) && decide (a - i < other.length)).map fun i => row.getD i 0 * other.getD (a - i) 0).sum
def conv (row other : List Nat) (place : Nat) : List Nat := (List.range (place + 1)).map (cv row other)
/-- the laws' laps -/
theorem range_map_snoc {α : Type} (f : Nat → α) (k : Nat) : (List.range (k + 1)).map f = (List.range k).map f ++ [f k] := by rw [List.range_succ, List.map_append]; rfl
end Z

set_option linter.all false
set_option autoImplicit false
set_option Elab.async false
set_option maxRecDepth 100000
/-! binomials; forests by a formula -/
namespace Z
def bin : Nat → Nat → Nat
  | _, 0 => 1
  | 0, _ + 1 => 0
  | n + 1, k + 1 => bin n k + bin n (k + 1)
theorem bin_zero (n : Nat) : bin n 0 = 1 := by cases n <;> rfl
theorem bin_gt : ∀ (n k : Nat), n < k → bin n k = 0
  | 0, k + 1, _ => rfl
  | n + 1, k + 1, h => by rw [bin, bin_gt n k (by omega), bin_gt n (k + 1) (by omega)]
theorem bin_both : ∀ n : Nat, (∀ k, bin n (k + 1) * (k + 1) = bin n k * (n - k)) ∧ ∀ k, k ≤ n + 1 → bin (n + 1) k * (n + 1 - k) = bin n k * (n + 1)
  | 0 => by
    refine ⟨fun k => ?_, fun k hk => ?_⟩
    · simp [bin]
    · match k, hk with
      | 0, _ => simp [bin]
      | 1, _ => simp [bin]
  | n + 1 => by
    obtain ⟨A, B⟩ := bin_both n
    have A' : ∀ k, bin (n + 1) (k + 1) * (k + 1) = bin (n + 1) k * (n + 1 - k) := fun k => by
      by_cases h : k ≤ n
      · rw [B k (by omega), bin, Nat.add_mul, A k, ← Nat.mul_add]
        congr 1
        omega
      · rw [bin_gt (n + 1) (k + 1) (by omega), show n + 1 - k = 0 by omega, Nat.zero_mul, Nat.mul_zero]
    refine ⟨A', fun k hk => ?_⟩
    match k, hk with
    | 0, _ => simp [bin_zero]
    | j + 1, hk =>
      rw [bin, Nat.add_mul, show n + 1 + 1 - (j + 1) = n + 1 - j by omega, ← A' j, ← Nat.mul_add]
      congr 1
      omega
theorem bin_mul (n k : Nat) : bin n (k + 1) * (k + 1) = bin n k * (n - k) := (bin_both n).1 k
theorem bin_le : ∀ n k : Nat, bin n k ≤ 2 ^ n
  | n, 0 => by rw [bin_zero]; exact Nat.one_le_two_pow
  | 0, k + 1 => Nat.zero_le _
  | n + 1, k + 1 => by
    rw [bin]
    have h1 := bin_le n k
    have h2 := bin_le n (k + 1)
    rw [Nat.pow_succ]
    omega
/-- the program's choose -/
def ch (top : Int) : Nat → Int
  | 0 => 1
  | n + 1 => (ch top n * (top - n)).fdiv (n + 1)
theorem ch_bin (T : Nat) : ∀ k : Nat, ch T k = (bin T k : Nat)
  | 0 => by rw [bin_zero]; rfl
  | k + 1 => by
    rw [ch, ch_bin T k]
    have hp : (0 : Int) ≤ (k : Int) + 1 := by omega
    rw [Int.fdiv_eq_ediv_of_nonneg _ hp]
    by_cases h : k ≤ T
    · have e : ((bin T k : Nat) : Int) * ((T : Int) - k) = ((bin T (k + 1) : Nat) : Int) * ((k : Int) + 1) := by
        have := bin_mul T k
        have h2 : ((T - k : Nat) : Int) = (T : Int) - k := by omega
        rw [← h2]
        exact_mod_cast this.symm
      rw [e, Int.mul_ediv_cancel _ (by omega)]
    · rw [bin_gt T k (by omega), bin_gt T (k + 1) (by omega)]
      simp
/-- the law's product, the law's factorial -/
def pr (many top : Int) : Nat → Int
  | 0 => many
  | n + 1 => pr many top n * (top - n)
def ff : Nat → Int
  | 0 => 1
  | n + 1 => ff n * (2 + n)
def fac : Nat → Nat
  | 0 => 1
  | n + 1 => fac n * (n + 1)
theorem fac_pos : ∀ n, 0 < fac n
  | 0 => Nat.one_pos
  | n + 1 => Nat.mul_pos (fac_pos n) (Nat.succ_pos n)
theorem ff_fac : ∀ n : Nat, ff n = (fac (n + 1) : Nat)
  | 0 => rfl
  | n + 1 => by
    rw [ff, ff_fac n, show fac (n + 1 + 1) = fac (n + 1) * (n + 1 + 1) from rfl, Int.natCast_mul]
    congr 1
    omega
theorem pr_bin (m T : Nat) : ∀ k : Nat, pr m T k = ((m * (fac k * bin T k) : Nat) : Int)
  | 0 => by rw [bin_zero]; simp [pr, fac]
  | k + 1 => by
    rw [pr, pr_bin m T k]
    by_cases h : k ≤ T
    · have h2 : ((T - k : Nat) : Int) = (T : Int) - k := by omega
      rw [← h2]
      have := bin_mul T k
      have e : m * (fac k * bin T k) * (T - k) = m * (fac (k + 1) * bin T (k + 1)) := by
        rw [fac, Nat.mul_assoc, Nat.mul_assoc, ← this]
        congr 1
        rw [Nat.mul_assoc]
        congr 1
        rw [Nat.mul_comm]
      exact_mod_cast e
    · rw [bin_gt T k (by omega), bin_gt T (k + 1) (by omega)]
      simp
/-- how many forests -/
def FN (s m k : Nat) : Nat := if k = 0 then 1 else m * bin (s * k + m) k / (s * k + m)
theorem FN_lt {s m k : Nat} (hs : s ≤ 4) (hm : m ≤ 1000) (hk : k ≤ 200) : FN s m k < 2 ^ 2000 := by
  have h1 : s * k ≤ 800 := Nat.mul_le_mul hs hk
  have hb : m * bin (s * k + m) k ≤ 1000 * 2 ^ 1800 := Nat.mul_le_mul hm (Nat.le_trans (bin_le _ _) (Nat.pow_le_pow_right (by decide) (by omega)))
  have h3 : 1000 * 2 ^ 1800 < 2 ^ 2000 := by decide +kernel
  have h4 : 1 < 2 ^ 2000 := by decide +kernel
  unfold FN
  split
  · exact h4
  · exact Nat.lt_of_le_of_lt (Nat.le_trans (Nat.div_le_self _ _) hb) h3
theorem lt_WW {i : Nat} (h : i < 2 ^ 2000) : ((i : Nat) : Int).natAbs < 2 ^ 40000 := by
  rw [Int.natAbs_natCast]
  exact Nat.lt_of_lt_of_le h (Nat.pow_le_pow_right (by decide) (by decide))
theorem fac_lt {k : Nat} (h : k ≤ 128) : ((fac k : Nat) : Int).natAbs < DW := by
  rw [Int.natAbs_natCast]
  have : (List.range 129).all (fun w => decide (fac w < 2 ^ 8000)) = true := by decide +kernel
  exact of_decide_eq_true (List.all_eq_true.mp this k (List.mem_range.mpr (by omega)))
end Z
namespace Z
/-! ### forests by their first cut: a word, or a split -/
def FR (s : Nat) : Nat → Nat → Nat
  | _, 0 => 1
  | 0, _ + 1 => 0
  | m + 1, k + 1 => FR s m (k + 1) + FR s (m + s) k
termination_by m k => (k, m)
theorem FR_zero (s m : Nat) : FR s m 0 = 1 := by cases m <;> simp [FR]
theorem FR_none (s k : Nat) : FR s 0 (k + 1) = 0 := by simp [FR]
theorem FR_rec (s m k : Nat) : FR s (m + 1) (k + 1) = FR s m (k + 1) + FR s (m + s) k := by rw [FR]
theorem bin_up (n k : Nat) : bin (n + 1) (k + 1) * (k + 1) = bin n k * (n + 1) := by
  by_cases h : k ≤ n
  · have h1 := (bin_both (n + 1)).1 k
    have h2 := (bin_both n).2 k (by omega)
    rw [h1, h2]
  · rw [bin_gt (n + 1) (k + 1) (by omega), bin_gt n k (by omega)]; simp
theorem FR_bin (s : Nat) (hs : 1 ≤ s) : ∀ k m : Nat, FR s m k * (s * k + m) = m * bin (s * k + m) k
  | 0, m => by rw [FR_zero, bin_zero]; simp
  | k + 1, 0 => by rw [FR_none]; simp
  | k + 1, m + 1 => by
    have A := FR_bin s hs (k + 1) m
    have B := FR_bin s hs k (m + s)
    have e1 : s * k + (m + s) = s * (k + 1) + m := by rw [Nat.mul_succ]; omega
    rw [e1] at B
    have hN : k ≤ s * (k + 1) + m := by
      have : k + 1 ≤ s * (k + 1) := Nat.le_mul_of_pos_left _ hs
      omega
    have e2 : s * (k + 1) + (m + 1) = (s * (k + 1) + m) + 1 := by omega
    rw [e2, FR_rec]
    have hsk : s * (k + 1) + m = s * (k + 1) + m := rfl
    generalize hNN : s * (k + 1) + m = N at A B hN ⊢
    have hpos : 0 < N := by
      have : k + 1 ≤ s * (k + 1) := Nat.le_mul_of_pos_left _ hs
      omega
    have u := bin_up N k
    have d := bin_mul N k
    have key : (FR s m (k + 1) + FR s (m + s) k) * (N + 1) * (N * (k + 1)) = (m + 1) * bin (N + 1) (k + 1) * (N * (k + 1)) := by
      have l1 : (FR s m (k + 1) + FR s (m + s) k) * (N + 1) * (N * (k + 1)) = (FR s m (k + 1) * N * (k + 1) + FR s (m + s) k * N * (k + 1)) * (N + 1) := by
        rw [← Nat.add_mul (FR s m (k + 1) * N), ← Nat.add_mul (FR s m (k + 1))]
        ac_rfl
      have l2 : (m + 1) * bin (N + 1) (k + 1) * (N * (k + 1)) = (m + 1) * N * (bin (N + 1) (k + 1) * (k + 1)) := by
        ac_rfl
      rw [l1, l2, u, A, B]
      have l3 : m * bin N (k + 1) * (k + 1) = m * (bin N k * (N - k)) := by rw [Nat.mul_assoc, d]
      rw [l3]
      have l4 : m * (bin N k * (N - k)) + (m + s) * bin N k * (k + 1) = (m + 1) * N * bin N k := by
        have hz : m * (N - k) + (m + s) * (k + 1) = (m + 1) * N := by
          obtain ⟨q, hq⟩ : ∃ q, N = k + q := ⟨N - k, by omega⟩
          have hq2 : N - k = q := by omega
          rw [hq2, Nat.add_mul, Nat.add_mul, Nat.one_mul, ← hNN] 
          rw [hNN, Nat.mul_add, Nat.mul_one]
          have h5 : m * N = m * k + m * q := by rw [hq, Nat.mul_add]
          omega
        calc m * (bin N k * (N - k)) + (m + s) * bin N k * (k + 1) = (m * (N - k) + (m + s) * (k + 1)) * bin N k := by
              rw [Nat.add_mul (m * (N - k))]
              congr 1 <;> ac_rfl
          _ = (m + 1) * N * bin N k := by rw [hz]
      rw [l4]
      ac_rfl
    exact Nat.eq_of_mul_eq_mul_right (Nat.mul_pos hpos (Nat.succ_pos k)) key
termination_by k m => (k, m)
theorem FN_FR {s : Nat} (hs : 1 ≤ s) (m k : Nat) : FN s m k = FR s m k := by
  unfold FN
  split
  · rename_i h; subst h; rw [FR_zero]
  · rename_i h
    rw [← FR_bin s hs k m]
    have : 0 < s * k + m := by
      have : 0 < s * k := Nat.mul_pos hs (by omega)
      omega
    exact Nat.mul_div_cancel _ this
theorem FN_zero (s m : Nat) : FN s m 0 = 1 := by simp [FN]
theorem FN_none {s : Nat} (hs : 1 ≤ s) (k : Nat) : FN s 0 (k + 1) = 0 := by rw [FN_FR hs, FR_none]
theorem FN_rec {s : Nat} (hs : 1 ≤ s) (m k : Nat) : FN s (m + 1) (k + 1) = FN s m (k + 1) + FN s (m + s) k := by rw [FN_FR hs, FN_FR hs, FN_FR hs, FR_rec]
/-- forests of a and of b cuts side by side -/
theorem FN_conv {s : Nat} (hs : 1 ≤ s) (b : Nat) : ∀ k a : Nat, ((List.range (k + 1)).map fun i => FN s a i * FN s b (k - i)).sum = FN s (a + b) k
  | k, 0 => by
    rw [List.range_succ_eq_map, List.map_cons, List.sum_cons, FN_zero, Nat.one_mul, Nat.sub_zero, Nat.zero_add, List.map_map]
    have : ∀ l : List Nat, (l.map ((fun i => FN s 0 i * FN s b (k - i)) ∘ Nat.succ)).sum = 0 := by
      intro l
      induction l with
      | nil => rfl
      | cons i l ih =>
        rw [List.map_cons, List.sum_cons, ih]
        show FN s 0 (i + 1) * _ + 0 = 0
        rw [FN_none hs, Nat.zero_mul]
    rw [this, Nat.add_zero]
  | 0, a + 1 => by simp [FN_zero]
  | k + 1, a + 1 => by
    have A := FN_conv hs b (k + 1) a
    have B := FN_conv hs b k (a + s)
    rw [show a + 1 + b = (a + b) + 1 by omega, FN_rec hs, ← A, show a + b + s = a + s + b by omega, ← B]
    rw [List.range_succ_eq_map (n := k + 1), List.map_cons, List.map_cons, List.sum_cons, List.sum_cons, FN_zero, FN_zero, List.map_map, List.map_map, Nat.add_assoc]
    congr 1
    have : ∀ l : List Nat, (l.map ((fun i => FN s (a + 1) i * FN s b (k + 1 - i)) ∘ Nat.succ)).sum = (l.map ((fun i => FN s a i * FN s b (k + 1 - i)) ∘ Nat.succ)).sum + (l.map fun i => FN s (a + s) i * FN s b (k - i)).sum := by
      intro l
      induction l with
      | nil => rfl
      | cons x l ih =>
        rw [List.map_cons, List.map_cons, List.map_cons, List.sum_cons, List.sum_cons, List.sum_cons, ih]
        show FN s (a + 1) (x + 1) * FN s b (k + 1 - (x + 1)) + _ = FN s a (x + 1) * FN s b (k + 1 - (x + 1)) + _ + _
        rw [FN_rec hs, Nat.add_mul, show k + 1 - (x + 1) = k - x by omega]
        omega
    exact this _
termination_by k a => (k, a)
/-- for the kernel -/
def chN (T : Nat) : Nat → Nat
  | 0 => 1
  | k + 1 => chN T k * (T - k) / (k + 1)
theorem chN_bin (T : Nat) : ∀ k, chN T k = bin T k
  | 0 => by rw [bin_zero]; rfl
  | k + 1 => by rw [chN, chN_bin T k, ← bin_mul, Nat.mul_div_cancel _ (Nat.succ_pos k)]
def FNc (s m k : Nat) : Nat := if k = 0 then 1 else m * chN (s * k + m) k / (s * k + m)
theorem FN_c (s m k : Nat) : FN s m k = FNc s m k := by unfold FN FNc; rw [chN_bin]
end Z

set_option linter.all false
set_option autoImplicit false
set_option Elab.async false
set_option maxRecDepth 100000
/-! Z, part 24: full cuts: by position, by walking; their order, what they are made of. No program in sight. -/
namespace Z
theorem kids_len (s : Nat) (w : Wd) : (kids s w).length = s := by unfold kids; rw [List.length_map, List.length_range]
theorem kids_cons {s : Nat} (h : 1 ≤ s) (w : Wd) : ∃ r, kids s w = (w ++ [0]) :: r := by
  obtain ⟨k, rfl⟩ : ∃ k, s = k + 1 := ⟨s - 1, by omega⟩
  unfold kids
  rw [List.range_succ_eq_map, List.map_cons]
  exact ⟨_, rfl⟩
theorem kids_mem {s : Nat} {w x : Wd} (h : x ∈ kids s w) : ∃ i, i < s ∧ x = w ++ [i] := by
  unfold kids at h
  obtain ⟨i, hi, rfl⟩ := List.mem_map.mp h
  exact ⟨i, List.mem_range.mp hi, rfl⟩
/-- the cut at a position: f turns -/
def bld (s : Nat) : Nat → Nat → Nat → List Wd → List Wd
  | 0, _, _, _ => []
  | _ + 1, _, _, [] => []
  | f + 1, pos, left, w :: st => if pos < FN s st.length left then w :: bld s f pos left st else bld s f (pos - FN s st.length left) (left - 1) (kids s w ++ st)
/-- the position, by what is known to be a word -/
def wkN (s : Nat) (kn : List Wd) : Nat → Nat → List Wd → Nat
  | 0, _, _ => 0
  | _ + 1, _, [] => 0
  | f + 1, left, w :: st => if w ∈ kn then wkN s kn f left st else FN s st.length left + wkN s kn f (left - 1) (kids s w ++ st)
/-- from what waits, by so many splits, to what is found -/
inductive Fc (s : Nat) : List Wd → Nat → List Wd → Prop
  | nil : Fc s [] 0 []
  | leaf {w : Wd} {st out : List Wd} {l : Nat} : Fc s st l out → Fc s (w :: st) l (w :: out)
  | split {w : Wd} {st out : List Wd} {l : Nat} : Fc s (kids s w ++ st) l out → Fc s (w :: st) (l + 1) out
theorem FN_pos {s : Nat} (h : 1 ≤ s) : ∀ l m : Nat, 0 < FN s (m + 1) l
  | 0, m => by rw [FN_zero]; exact Nat.one_pos
  | l + 1, m => by
    rw [FN_rec h]
    have := FN_pos h l (m + s - 1)
    rw [show m + s - 1 + 1 = m + s by omega] at this
    omega
theorem FN_none' {s : Nat} (h : 1 ≤ s) {l p : Nat} (hp : p < FN s 0 l) : l = 0 ∧ p = 0 := by
  cases l with
  | zero => rw [FN_zero] at hp; exact ⟨rfl, by omega⟩
  | succ l => rw [FN_none h] at hp; omega
section
variable {s : Nat} (h0 : 1 ≤ s)
include h0
theorem bld_fc : ∀ (f pos left : Nat) (st : List Wd), s * left + st.length ≤ f → pos < FN s st.length left → Fc s st left (bld s f pos left st) := by
  intro f
  induction f with
  | zero =>
    intro pos left st hf hp
    have : st = [] := List.eq_nil_of_length_eq_zero (by omega)
    subst this
    obtain ⟨rfl, rfl⟩ := FN_none' h0 hp
    exact .nil
  | succ f ih =>
    intro pos left st hf hp
    cases st with
    | nil =>
      obtain ⟨rfl, rfl⟩ := FN_none' h0 hp
      exact .nil
    | cons w st =>
      rw [List.length_cons] at hf hp
      rw [bld]
      by_cases c : pos < FN s st.length left
      · rw [if_pos c]
        exact .leaf (ih pos left st (by omega) c)
      · rw [if_neg c]
        cases left with
        | zero => rw [FN_zero] at hp c; omega
        | succ l =>
          rw [FN_rec h0] at hp
          rw [Nat.mul_add] at hf
          refine .split (ih _ l (kids s w ++ st) ?_ ?_)
          · rw [List.length_append, kids_len]; omega
          · rw [List.length_append, kids_len, Nat.add_comm s]; omega
theorem Fc.ext {st out : List Wd} {l : Nat} (h : Fc s st l out) : ∀ w ∈ st, ∃ x, w ++ x ∈ out := by
  induction h with
  | nil => intro w hw; cases hw
  | leaf h ih =>
    intro w hw
    rcases List.mem_cons.mp hw with rfl | hw
    · exact ⟨[], by rw [List.append_nil]; exact List.mem_cons_self⟩
    · obtain ⟨x, hx⟩ := ih w hw
      exact ⟨x, List.mem_cons_of_mem _ hx⟩
  | @split u st out l h ih =>
    intro w hw
    rcases List.mem_cons.mp hw with rfl | hw
    · obtain ⟨r, e⟩ := kids_cons h0 w
      obtain ⟨x, hx⟩ := ih (w ++ [0]) (by rw [e]; exact List.mem_append_left _ List.mem_cons_self)
      exact ⟨[0] ++ x, by rw [← List.append_assoc]; exact hx⟩
    · exact ih w (List.mem_append_right _ hw)
theorem Fc.head {st out : List Wd} {l : Nat} (h : Fc s st l out) : ∀ w r, st = w :: r → ∃ x out', out = (w ++ x) :: out' := by
  induction h with
  | nil => intro w r e; cases e
  | @leaf u st out l h ih =>
    intro w r e
    cases e
    exact ⟨[], out, by rw [List.append_nil]⟩
  | @split u st out l h ih =>
    intro w r e
    cases e
    obtain ⟨k, ek⟩ := kids_cons h0 u
    obtain ⟨x, out', e⟩ := ih (u ++ [0]) (k ++ st) (by rw [ek]; rfl)
    exact ⟨[0] ++ x, out', by rw [← List.append_assoc]; exact e⟩
theorem Fc.len {st out : List Wd} {l : Nat} (h : Fc s st l out) : out.length = st.length + (s - 1) * l := by
  induction h with
  | nil => simp
  | leaf h ih => rw [List.length_cons, List.length_cons, ih]; omega
  | split h ih =>
    rw [ih, List.length_append, kids_len, List.length_cons, Nat.mul_add]
    omega
theorem Fc.bound {st out : List Wd} {l B : Nat} (h : Fc s st l out) : (∀ w ∈ st, w.length + l ≤ B) → ∀ w ∈ out, w.length ≤ B := by
  induction h with
  | nil => intro _ w hw; cases hw
  | @leaf u st out l h ih =>
    intro hb w hw
    rcases List.mem_cons.mp hw with rfl | hw
    · have := hb w List.mem_cons_self; omega
    · exact ih (fun x hx => hb x (List.mem_cons_of_mem _ hx)) w hw
  | @split u st out l h ih =>
    intro hb
    refine ih fun x hx => ?_
    rcases List.mem_append.mp hx with hx | hx
    · obtain ⟨i, _, rfl⟩ := kids_mem hx
      have := hb u List.mem_cons_self
      rw [List.length_append]
      show u.length + 1 + l ≤ B
      omega
    · have := hb x (List.mem_cons_of_mem _ hx); omega
theorem Fc.letters {st out : List Wd} {l : Nat} (h : Fc s st l out) : (∀ w ∈ st, ∀ i ∈ w, i < s) → ∀ w ∈ out, ∀ i ∈ w, i < s := by
  induction h with
  | nil => intro _ w hw; cases hw
  | @leaf u st out l h ih =>
    intro hb w hw
    rcases List.mem_cons.mp hw with rfl | hw
    · exact hb w List.mem_cons_self
    · exact ih (fun x hx => hb x (List.mem_cons_of_mem _ hx)) w hw
  | @split u st out l h ih =>
    intro hb
    refine ih fun x hx => ?_
    rcases List.mem_append.mp hx with hx | hx
    · obtain ⟨i, hi, rfl⟩ := kids_mem hx
      intro j hj
      rcases List.mem_append.mp hj with hj | hj
      · exact hb u List.mem_cons_self j hj
      · obtain rfl := List.mem_singleton.mp hj; exact hi
    · exact hb x (List.mem_cons_of_mem _ hx)
theorem Fc.sum {st out : List Wd} {l M : Nat} (h : Fc s st l out) : (∀ w ∈ out, w.length ≤ M) → (out.map fun w => s ^ (M - w.length)).sum = (st.map fun w => s ^ (M - w.length)).sum := by
  induction h with
  | nil => intro _; rfl
  | leaf h ih =>
    intro hb
    rw [List.map_cons, List.map_cons, List.sum_cons, List.sum_cons, ih fun x hx => hb x (List.mem_cons_of_mem _ hx)]
  | @split u st out l h ih =>
    intro hb
    have hk : u.length + 1 ≤ M := by
      obtain ⟨r, e⟩ := kids_cons h0 u
      obtain ⟨x, hx⟩ := Fc.ext h0 h (u ++ [0]) (by rw [e]; exact List.mem_append_left _ List.mem_cons_self)
      have := hb _ hx
      rw [List.length_append, List.length_append] at this
      have : u.length + 1 + x.length ≤ M := this
      omega
    have e : (kids s u).map (fun w => s ^ (M - w.length)) = List.replicate s (s ^ (M - (u.length + 1))) := by
      unfold kids
      rw [List.map_map]
      refine List.eq_replicate_iff.mpr ⟨by simp, fun x hx => ?_⟩
      obtain ⟨i, _, rfl⟩ := List.mem_map.mp hx
      show s ^ (M - (u ++ [i]).length) = _
      rw [List.length_append]
      rfl
    rw [ih hb, List.map_append, List.sum_append, List.map_cons, List.sum_cons, e, List.sum_replicate_nat]
    congr 1
    obtain ⟨d, hd⟩ : ∃ d, M - u.length = d + 1 := ⟨M - u.length - 1, by omega⟩
    rw [show M - (u.length + 1) = d by omega, hd, Nat.pow_succ, Nat.mul_comm]
theorem Fc.leaves {st out : List Wd} {l : Nat} (h : Fc s st l out) : ∀ a : List Wd, Fc s (a ++ st) l (a ++ out)
  | [] => h
  | w :: a => .leaf (Fc.leaves h a)
theorem Fc.cut {st out : List Wd} {l : Nat} (h : Fc s st l out) : ∀ k, k < out.length → Fc s st (l + 1) (splitAt' s out k) := by
  induction h with
  | nil => intro k hk; cases hk
  | @leaf w st out l h ih =>
    intro k hk
    cases k with
    | zero => exact .split (Fc.leaves h0 h _)
    | succ k => exact .leaf (ih k (Nat.lt_of_succ_lt_succ hk))
  | split h ih => intro k hk; exact .split (ih k hk)
end
/-! ### left of -/
def LO (a b : Wd) : Prop := ∃ p x y u v, a = p ++ x :: u ∧ b = p ++ y :: v ∧ x < y
theorem LO.ne {a b t : Wd} (h : LO a b) : a ++ t ≠ b ∧ b ++ t ≠ a := by
  obtain ⟨p, x, y, u, v, rfl, rfl, hl⟩ := h
  constructor
  · intro e
    rw [List.append_assoc] at e
    have := List.append_cancel_left e
    simp at this
    omega
  · intro e
    rw [List.append_assoc] at e
    have := List.append_cancel_left e
    simp at this
    omega
theorem LO.left {a b : Wd} (h : LO a b) (t : Wd) : LO (a ++ t) b := by
  obtain ⟨p, x, y, u, v, rfl, rfl, hl⟩ := h
  exact ⟨p, x, y, u ++ t, v, by rw [List.append_assoc]; rfl, rfl, hl⟩
theorem LO.right {a b : Wd} (h : LO a b) (t : Wd) : LO a (b ++ t) := by
  obtain ⟨p, x, y, u, v, rfl, rfl, hl⟩ := h
  exact ⟨p, x, y, u, v ++ t, rfl, by rw [List.append_assoc]; rfl, hl⟩
theorem wlt_app (p a b : Wd) : wlt (p ++ a) (p ++ b) = wlt a b := by
  induction p with
  | nil => rfl
  | cons x p ih =>
    show lexB _ _ (x :: (p ++ a)) (x :: (p ++ b)) = _
    rw [lexB, if_pos (by simp)]
    exact ih
theorem LO.lt {a b : Wd} (h : LO a b) : wlt a b = true := by
  obtain ⟨p, x, y, u, v, rfl, rfl, hl⟩ := h
  rw [wlt_app]
  show lexB _ _ (x :: u) (y :: v) = true
  rw [lexB, if_neg (by simp; omega)]
  simp [nlt, hl]
theorem wlt_ext (w : Wd) (x : Nat) (u : Wd) : wlt w (w ++ x :: u) = true := by
  have := wlt_app w [] (x :: u)
  rw [List.append_nil] at this
  rw [this]
  rfl
theorem kids_LO (s : Nat) (w : Wd) : (kids s w).Pairwise LO := by
  unfold kids
  rw [List.pairwise_map]
  refine List.Pairwise.imp ?_ List.pairwise_lt_range
  intro a b h
  exact ⟨w, a, b, [], [], rfl, rfl, h⟩
theorem Fc.sorted {s : Nat} {st out : List Wd} {l : Nat} (h : Fc s st l out) : ∀ F : List Wd, (F ++ st).Pairwise LO → (F ++ out).Pairwise LO := by
  induction h with
  | nil => intro F hp; exact hp
  | @leaf w st out l h ih =>
    intro F hp
    have := ih (F ++ [w]) (by rw [List.append_assoc]; exact hp)
    rw [List.append_assoc] at this
    exact this
  | @split w st out l h ih =>
    intro F hp
    refine ih F ?_
    obtain ⟨h1, h2, h3⟩ := List.pairwise_append.mp hp
    obtain ⟨h4, h5⟩ := List.pairwise_cons.mp h2
    refine List.pairwise_append.mpr ⟨h1, List.pairwise_append.mpr ⟨kids_LO s w, h5, fun a ha b hb => ?_⟩, fun a ha b hb => ?_⟩
    · obtain ⟨i, _, rfl⟩ := kids_mem ha
      exact (h4 b hb).left _
    · rcases List.mem_append.mp hb with hb | hb
      · obtain ⟨i, _, rfl⟩ := kids_mem hb
        exact (h3 a ha w List.mem_cons_self).right _
      · exact h3 a ha b (List.mem_cons_of_mem _ hb)
/-- no word begins another one -/
def PF (kn : List Wd) : Prop := ∀ w x, w ∈ kn → w ++ x ∈ kn → x = []
theorem pf_of {kn : List Wd} (h : kn.Pairwise LO) : PF kn := fun w x h1 h2 => by
  by_cases e : w = w ++ x
  · have := congrArg List.length e
    rw [List.length_append] at this
    exact List.eq_nil_of_length_eq_zero (by omega)
  · have : LO w (w ++ x) ∨ LO (w ++ x) w := by
      induction kn with
      | nil => cases h1
      | cons k kn ih =>
        obtain ⟨g1, g2⟩ := List.pairwise_cons.mp h
        rcases List.mem_cons.mp h1 with r1 | r1
        · rcases List.mem_cons.mp h2 with r2 | r2
          · exact absurd (r1.trans r2.symm) e
          · subst r1; exact .inl (g1 _ r2)
        · rcases List.mem_cons.mp h2 with r2 | r2
          · rw [r2]; exact .inr (g1 _ r1)
          · exact ih g2 r1 r2
    rcases this with g | g
    · exact absurd rfl (g.ne (t := x)).1
    · exact absurd rfl (g.ne (t := x)).2
section
variable {s : Nat} (h0 : 1 ≤ s)
include h0
/-- the walk's position is one, and the cut there is what was walked -/
theorem wk_fc {kn : List Wd} (pf : PF kn) {st out : List Wd} {l : Nat} (h : Fc s st l out) : (∀ x ∈ out, x ∈ kn) → ∀ f, s * l + st.length ≤ f → wkN s kn f l st < FN s st.length l ∧ bld s f (wkN s kn f l st) l st = out := by
  induction h with
  | nil =>
    intro _ f _
    have e : wkN s kn f 0 [] = 0 := by cases f <;> rfl
    rw [e]
    refine ⟨by rw [FN_zero]; exact Nat.one_pos, by cases f <;> rfl⟩
  | @leaf w st out l h ih =>
    intro hs f hf
    rw [List.length_cons] at hf
    cases f with
    | zero => omega
    | succ f =>
      obtain ⟨h1, h2⟩ := ih (fun x hx => hs x (List.mem_cons_of_mem _ hx)) f (by omega)
      have e : wkN s kn (f + 1) l (w :: st) = wkN s kn f l st := by rw [wkN, if_pos (hs w List.mem_cons_self)]
      rw [e]
      refine ⟨?_, by rw [bld, if_pos h1, h2]⟩
      rw [List.length_cons]
      cases l with
      | zero => rw [FN_zero] at h1 ⊢; exact h1
      | succ l => rw [FN_rec h0]; omega
  | @split w st out l h ih =>
    intro hs f hf
    rw [List.length_cons, Nat.mul_add] at hf
    cases f with
    | zero => omega
    | succ f =>
      have hn : w ∉ kn := fun hw => by
        obtain ⟨r, e⟩ := kids_cons h0 w
        obtain ⟨x, hx⟩ := Fc.ext h0 h (w ++ [0]) (by rw [e]; exact List.mem_append_left _ List.mem_cons_self)
        have := hs _ hx
        rw [List.append_assoc] at this
        have := pf w _ hw this
        cases this
      obtain ⟨h1, h2⟩ := ih hs f (by rw [List.length_append, kids_len]; omega)
      rw [List.length_append, kids_len, Nat.add_comm s] at h1
      have e : wkN s kn (f + 1) (l + 1) (w :: st) = FN s st.length (l + 1) + wkN s kn f l (kids s w ++ st) := by rw [wkN, if_neg hn]; rfl
      rw [e, List.length_cons, FN_rec h0]
      refine ⟨by omega, ?_⟩
      rw [bld, if_neg (by omega), Nat.add_sub_cancel_left]
      exact h2
/-- the lesser position, the lesser cut -/
theorem bld_lt : ∀ (f p q l : Nat) (st : List Wd), s * l + st.length ≤ f → p < q → q < FN s st.length l → clt (bld s f p l st) (bld s f q l st) = true := by
  intro f
  induction f with
  | zero =>
    intro p q l st hf hpq hq
    have : st = [] := List.eq_nil_of_length_eq_zero (by omega)
    subst this
    have := (FN_none' h0 hq).2
    omega
  | succ f ih =>
    intro p q l st hf hpq hq
    cases st with
    | nil =>
      have := (FN_none' h0 hq).2
      omega
    | cons w st =>
      rw [List.length_cons] at hf hq
      by_cases c2 : q < FN s st.length l
      · rw [bld, bld, if_pos (show p < FN s st.length l by omega), if_pos c2]
        show lexB _ _ (w :: _) (w :: _) = true
        rw [lexB, if_pos (by simp)]
        exact ih p q l st (by omega) hpq c2
      · cases l with
        | zero => rw [FN_zero] at c2 hq; omega
        | succ l =>
          rw [FN_rec h0] at hq
          rw [Nat.mul_add] at hf
          have hf' : s * l + (kids s w ++ st).length ≤ f := by rw [List.length_append, kids_len]; omega
          have hq' : q - FN s st.length (l + 1) < FN s (kids s w ++ st).length l := by rw [List.length_append, kids_len, Nat.add_comm s]; omega
          by_cases c1 : p < FN s st.length (l + 1)
          · rw [bld, bld, if_pos c1, if_neg c2]
            obtain ⟨r, er⟩ := kids_cons h0 w
            obtain ⟨x, out', e⟩ := Fc.head h0 (bld_fc h0 f (q - FN s st.length (l + 1)) l (kids s w ++ st) hf' hq') (w ++ [0]) (r ++ st) (by rw [er]; rfl)
            rw [Nat.add_sub_cancel, e]
            show lexB _ _ (w :: _) (((w ++ [0]) ++ x) :: out') = true
            have ew : w ++ [0] ++ x = w ++ 0 :: x := by rw [List.append_assoc]; rfl
            have ne : w ≠ w ++ 0 :: x := fun z => by
              have := congrArg List.length z
              rw [List.length_append, List.length_cons] at this
              omega
            rw [ew, lexB, if_neg (by simpa using ne)]
            exact wlt_ext w 0 x
          · rw [bld, bld, if_neg c1, if_neg c2]
            exact ih _ _ l (kids s w ++ st) hf' (by omega) hq'
/-- the other way -/
theorem bld_inj {f p q l : Nat} {st : List Wd} (hf : s * l + st.length ≤ f) (hp : p < FN s st.length l) (hq : q < FN s st.length l) (e : bld s f p l st = bld s f q l st) : p = q := by
  rcases Nat.lt_trichotomy p q with h | h | h
  · have := bld_lt h0 f p q l st hf h hq
    rw [e, clt_tot.irr] at this
    cases this
  · exact h
  · have := bld_lt h0 f q p l st hf h hp
    rw [e, clt_tot.irr] at this
    cases this
theorem bld_leaves : ∀ (f : Nat) (st : List Wd), st.length ≤ f → bld s f 0 0 st = st
  | 0, [], _ => rfl
  | 0, _ :: _, h => by simp at h
  | f + 1, [], _ => rfl
  | f + 1, w :: st, h => by
    rw [bld, FN_zero, if_pos Nat.one_pos, bld_leaves f st (by simpa using h)]
/-- the last one: always the first word split -/
def endF (s : Nat) : Nat → List Wd → List Wd
  | 0, ws => ws
  | k + 1, ws => endF s k (splitAt' s ws 0)
theorem bld_last : ∀ (l f : Nat) (w : Wd) (st : List Wd), s * l + st.length + 1 ≤ f → bld s f (FN s (st.length + 1) l - 1) l (w :: st) = endF s l (w :: st)
  | 0, f, w, st, h => by
    rw [FN_zero]
    exact bld_leaves h0 f (w :: st) (by simpa using h)
  | l + 1, f, w, st, h => by
    rw [Nat.mul_add] at h
    obtain ⟨r, er⟩ := kids_cons h0 w
    have hr : r.length + 1 = s := by
      have := kids_len s w
      rw [er] at this
      exact this
    cases f with
    | zero => omega
    | succ f =>
      have p := FN_pos h0 l (st.length + s - 1)
      rw [show st.length + s - 1 + 1 = st.length + s by omega] at p
      have ih := bld_last l f (w ++ [0]) (r ++ st) (by rw [List.length_append]; omega)
      rw [List.length_append, show r.length + st.length + 1 = st.length + s by omega] at ih
      rw [bld, FN_rec h0, if_neg (by omega), show FN s st.length (l + 1) + FN s (st.length + s) l - 1 - FN s st.length (l + 1) = FN s (st.length + s) l - 1 by omega, er]
      show bld s f _ l ((w ++ [0]) :: (r ++ st)) = _
      rw [ih]
      show _ = endF s l (kids s w ++ st)
      rw [er]
      rfl
/-- the first one: always the last word split -/
def endL (s : Nat) : Nat → List Wd → List Wd
  | 0, ws => ws
  | k + 1, ws => endL s k (splitAt' s ws (ws.length - 1))
theorem splitL (a : List Wd) (w : Wd) : splitAt' s (a ++ [w]) ((a ++ [w]).length - 1) = a ++ kids s w := by
  unfold splitAt'
  rw [List.length_append, List.length_singleton, Nat.add_sub_cancel, List.take_left, List.getD_eq_getElem?_getD, List.getElem?_append_right (Nat.le_refl _), Nat.sub_self]
  rw [List.drop_eq_nil_of_le (by rw [List.length_append]; exact Nat.le_refl _), List.append_nil]
  rfl
theorem kids_snoc (w : Wd) : ∃ r, kids s w = r ++ [w ++ [s - 1]] ∧ r.length + 1 = s := by
  obtain ⟨k, rfl⟩ : ∃ k, s = k + 1 := ⟨s - 1, by omega⟩
  refine ⟨(List.range k).map fun i => w ++ [i], ?_, by simp⟩
  unfold kids
  rw [List.range_succ, List.map_append]
  rfl
theorem bld_pre : ∀ (a : List Wd) (f l : Nat) (z : Wd), bld s (f + a.length) 0 l (a ++ [z]) = a ++ bld s f 0 l [z]
  | [], f, l, z => rfl
  | w :: a, f, l, z => by
    have p := FN_pos h0 l a.length
    have e : (a ++ [z]).length = a.length + 1 := by rw [List.length_append]; rfl
    show bld s (f + a.length + 1) 0 l (w :: (a ++ [z])) = w :: (a ++ bld s f 0 l [z])
    rw [bld, e, if_pos p, bld_pre a f l z]
theorem endL_pre : ∀ (l : Nat) (a b : List Wd), b ≠ [] → endL s l (a ++ b) = a ++ endL s l b
  | 0, _, _, _ => rfl
  | l + 1, a, b, hb => by
    obtain ⟨c, w, rfl⟩ : ∃ c w, b = c ++ [w] := ⟨b.dropLast, b.getLast hb, (List.dropLast_concat_getLast hb).symm⟩
    show endL s l (splitAt' s (a ++ (c ++ [w])) ((a ++ (c ++ [w])).length - 1)) = a ++ endL s l (splitAt' s (c ++ [w]) ((c ++ [w]).length - 1))
    rw [← List.append_assoc, splitL h0, splitL h0, List.append_assoc]
    refine endL_pre l a (c ++ kids s w) fun e => ?_
    obtain ⟨r, er⟩ := kids_cons h0 w
    rw [er] at e
    simp at e
theorem bld_first : ∀ (l f : Nat) (w : Wd), s * l + 1 ≤ f → bld s f 0 l [w] = endL s l [w]
  | 0, f, w, h => bld_leaves h0 f [w] (by simpa using h)
  | l + 1, f, w, h => by
    rw [Nat.mul_add] at h
    obtain ⟨r, er, hr⟩ := kids_snoc h0 w
    obtain ⟨g, rfl⟩ : ∃ g, f = g + r.length + 1 := ⟨f - r.length - 1, by omega⟩
    rw [bld]
    show (if 0 < FN s 0 (l + 1) then _ else bld s (g + r.length) (0 - FN s 0 (l + 1)) l (kids s w ++ [])) = _
    rw [FN_none h0, if_neg (Nat.lt_irrefl 0), List.append_nil, er, bld_pre h0 r g l, bld_first l g _ (by omega)]
    show _ = endL s l (splitAt' s ([] ++ [w]) (([] ++ [w]).length - 1))
    rw [splitL h0, List.nil_append, er, endL_pre h0 l r _ (by simp)]
theorem fc_zero : Fc s [[]] 0 [[]] := .leaf .nil
theorem splitAt_len {ws : List Wd} {k : Nat} (hk : k < ws.length) : (splitAt' s ws k).length = ws.length + (s - 1) := by
  unfold splitAt'
  rw [List.length_append, List.length_append, List.length_take, List.length_drop, kids_len]
  omega
theorem endF_fc : ∀ (j : Nat) {k : Nat} {ws : List Wd}, Fc s [[]] k ws → Fc s [[]] (k + j) (endF s j ws)
  | 0, k, ws, h => h
  | j + 1, k, ws, h => by
    have := endF_fc j (Fc.cut h0 h 0 (by rw [Fc.len h0 h]; simp; omega))
    rwa [show k + 1 + j = k + (j + 1) by omega] at this
theorem endL_fc : ∀ (j : Nat) {k : Nat} {ws : List Wd}, Fc s [[]] k ws → Fc s [[]] (k + j) (endL s j ws)
  | 0, k, ws, h => h
  | j + 1, k, ws, h => by
    have := endL_fc j (Fc.cut h0 h (ws.length - 1) (by have := Fc.len h0 h; simp at this; omega))
    rwa [show k + 1 + j = k + (j + 1) by omega] at this
/-- a full cut of so many splits -/
structure Full (s k : Nat) (c : List Wd) : Prop where
  fc : Fc s [[]] k c
theorem Full.lo {k : Nat} {c : List Wd} (h : Full s k c) : c.Pairwise LO := Fc.sorted h.fc [] (List.pairwise_singleton _ _)
theorem Full.len {k : Nat} {c : List Wd} (h : Full s k c) : c.length = (s - 1) * k + 1 := by
  have := Fc.len h0 h.fc
  rw [List.length_singleton] at this
  omega
theorem Full.short {k : Nat} {c : List Wd} (h : Full s k c) : ∀ w ∈ c, w.length ≤ k := Fc.bound h0 h.fc fun w hw => by
  obtain rfl := List.mem_singleton.mp hw
  exact Nat.le_of_eq (Nat.zero_add k)
theorem Full.letters {k : Nat} {c : List Wd} (h : Full s k c) : ∀ w ∈ c, ∀ i ∈ w, i < s := Fc.letters h0 h.fc fun w hw i hi => by
  obtain rfl := List.mem_singleton.mp hw
  cases hi
theorem Full.sum {k M : Nat} {c : List Wd} (h : Full s k c) (hM : ∀ w ∈ c, w.length ≤ M) : (c.map fun w => s ^ (M - w.length)).sum = s ^ M := by
  rw [Fc.sum h0 h.fc hM]
  simp
theorem Full.srt {k : Nat} {c : List Wd} (h : Full s k c) : Srt wlt c := (Full.lo h0 h).imp fun {a b} l => wlt_tot.asy l.lt
theorem Full.wk {k : Nat} {c : List Wd} (h : Full s k c) : wkN s c (s * k + 1) k [[]] < FN s 1 k ∧ bld s (s * k + 1) (wkN s c (s * k + 1) k [[]]) k [[]] = c :=
  wk_fc h0 (pf_of (Full.lo h0 h)) h.fc (fun _ hx => hx) (s * k + 1) (Nat.le_refl _)
theorem full_bld {k p : Nat} (hp : p < FN s 1 k) : Full s k (bld s (s * k + 1) p k [[]]) := ⟨bld_fc h0 (s * k + 1) p k [[]] (Nat.le_refl _) hp⟩
theorem wk_bld {k p : Nat} (hp : p < FN s 1 k) : wkN s (bld s (s * k + 1) p k [[]]) (s * k + 1) k [[]] = p := by
  obtain ⟨h1, h2⟩ := Full.wk h0 (full_bld h0 hp)
  exact bld_inj h0 (st := [[]]) (Nat.le_refl _) h1 hp h2
theorem full_first (k : Nat) : Full s k (endF s k [[]]) := ⟨by have := endF_fc h0 k (fc_zero h0); rwa [Nat.zero_add] at this⟩
theorem full_lastL (k : Nat) : Full s k (endL s k [[]]) := ⟨by have := endL_fc h0 k (fc_zero h0); rwa [Nat.zero_add] at this⟩
theorem bld_many (k : Nat) : bld s (s * k + 1) (FN s 1 k - 1) k [[]] = endF s k [[]] := bld_last h0 k (s * k + 1) [] [] (Nat.le_refl _)
theorem bld_none (k : Nat) : bld s (s * k + 1) 0 k [[]] = endL s k [[]] := bld_first h0 k (s * k + 1) [] (Nat.le_refl _)
theorem wk_many (k : Nat) : wkN s (endF s k [[]]) (s * k + 1) k [[]] = FN s 1 k - 1 := by
  rw [← bld_many h0]
  have p : 0 < FN s 1 k := FN_pos h0 k 0
  exact wk_bld h0 (by omega)
end
end Z

set_option linter.all false
set_option autoImplicit false
set_option Elab.async false
set_option maxRecDepth 100000
/-! Z, part 24: what is shown. -/
namespace Z
open PySem (Str)
theorem repr_v {d : D} (h : d.shw 20 = true) (h2 : d.wt ≤ 1048576) : bfv .repr [d] = some (.val (.str (reprS d))) := by
  have : bfv .repr [d] = if d.shw 20 && decide (d.wt ≤ 1048576) then some (.val (.str (reprS d))) else none := rfl
  rw [this, h, decide_eq_true h2]
  rfl
theorem ne_str (x : Str) : cop .NotEq (.str x) (.str x) = some false := by
  show some (!(x == x)) = _
  simp
theorem eq_str (x : Str) : cop .Eq (.str x) (.str x) = some true := by
  show some (x == x) = _
  simp
section
variable {α : Type} (f : α → D)
theorem wts_map : ∀ (xs : List α) (B : Nat), (∀ x ∈ xs, (f x).wt ≤ B) → D.wts (xs.map f) ≤ xs.length * (B + 1)
  | [], B, _ => Nat.zero_le _
  | x :: xs, B, h => by
    have h1 := h x List.mem_cons_self
    have h2 := wts_map xs B fun y hy => h y (List.mem_cons_of_mem _ hy)
    rw [List.map_cons, D.wts, List.length_cons, Nat.succ_mul]
    omega
theorem shws_map : ∀ (xs : List α) (n : Nat), (∀ x ∈ xs, (f x).shw n = true) → D.shws n (xs.map f) = true
  | [], n, _ => by cases n <;> rfl
  | x :: xs, n, h => by
    rw [List.map_cons, D.shws, h x List.mem_cons_self, shws_map xs n fun y hy => h y (List.mem_cons_of_mem _ hy)]
    rfl
end
theorem shw_lst {n : Nat} {xs : List D} : (D.lst xs).shw (n + 1) = D.shws n xs := by rw [D.shw]
theorem shw_tup {n : Nat} {xs : List D} : (D.tup xs).shw (n + 1) = D.shws n xs := by rw [D.shw]
theorem wt_lst {xs : List D} : (D.lst xs).wt = D.wts xs := by rw [D.wt]
theorem wt_tup {xs : List D} : (D.tup xs).wt = D.wts xs := by rw [D.wt]
theorem shw_nD {a n : Nat} (h : a < 1000000) : (nD a).shw n = true := by
  have : (nD a).shw n = decide ((a : Int).natAbs < SB) := by cases n <;> rw [nD, D.shw]
  rw [this]
  have e : SB = 1000000000000 := rfl
  exact decide_eq_true (by rw [e]; omega)
theorem wt_nD (a : Nat) : (nD a).wt ≤ 40 := by rw [nD, D.wt]; split <;> omega
theorem wt_nDs {a : Nat} (h : a < 16) : (nD a).wt = 4 := by rw [nD, D.wt, if_pos (by omega)]
theorem shw_wD {w : Wd} {n : Nat} (h : ∀ i ∈ w, i < 16) : (wD w).shw (n + 1) = true := by
  show (D.tup _).shw (n + 1) = true
  rw [shw_tup]
  exact shws_map nD w n fun i hi => shw_nD (by have := h i hi; omega)
theorem wt_wD {w : Wd} (h : ∀ i ∈ w, i < 16) : (wD w).wt ≤ w.length * 5 := by
  show (D.tup _).wt ≤ _
  rw [wt_tup]
  exact wts_map nD w 4 fun i hi => by rw [wt_nDs (h i hi)]; omega
theorem shw_wsL {c : List Wd} {n : Nat} (h : ∀ w ∈ c, ∀ i ∈ w, i < 16) : (wsL c).shw (n + 2) = true := by
  show (D.lst _).shw (n + 1 + 1) = true
  rw [shw_lst]
  exact shws_map wD c (n + 1) fun w hw => shw_wD (h w hw)
theorem wt_wsL {c : List Wd} {L : Nat} (h : ∀ w ∈ c, ∀ i ∈ w, i < 16) (hl : ∀ w ∈ c, w.length ≤ L) : (wsL c).wt ≤ c.length * (L * 5 + 1) := by
  show (D.lst _).wt ≤ _
  rw [wt_lst]
  exact wts_map wD c (L * 5) fun w hw => Nat.le_trans (wt_wD (h w hw)) (Nat.mul_le_mul_right 5 (hl w hw))
end Z

set_option linter.all false
set_option autoImplicit false
set_option Elab.async false
set_option maxRecDepth 100000
set_option maxHeartbeats 0
namespace G92
open PySem PySem.Spec PyProof.Rows L2 Z

def top (i : Nat) : Stmt := PySem.Challenge.pw_beginningswaps_k92_whole_lists_of_cuts.main.body.getD i (.Pass ⟨0, 0, 0, 0⟩)
def FREE : List Str := ["isinstance", "int", "bool", "list", "tuple", "all", "len", "range", "zip", "max", "sum", "abs", "divmod", "sorted", "repr", "min"]
def CNS : List (Str × D) := [("LEAST_SIZE", .int (2)), ("MOST_SIZE", .int (4)), ("MOST_LETTERS", .int (40)), ("MOST_WORDS", .int (128)), ("MOST_SPLITS", .int (40)), ("MOST_LISTED", .int (600))]
def SH : List Shp := [⟨"is_integer", 1, [], [.inl 0], false⟩, ⟨"is_count", 1, [], [.inl 0], false⟩, ⟨"is_size_value", 1, [], [.inl 0], false⟩, ⟨"is_list", 1, [], [.inl 0], false⟩, ⟨"is_word_value", 2, [], [.inl 0, .inl 1], false⟩, ⟨"are_words_value", 2, [], [.inl 0, .inl 1], false⟩, ⟨"begins", 2, [], [.inl 0, .inl 1], false⟩, ⟨"times", 2, [], [.inl 0, .inl 1], false⟩, ⟨"share_of", 2, [], [.inl 0, .inl 1], false⟩, ⟨"choose", 2, [], [.inl 0, .inl 1], false⟩, ⟨"forests", 3, [], [.inl 0, .inl 1, .inl 2], false⟩, ⟨"split_of", 2, [], [.inl 0, .inl 1], false⟩, ⟨"built", 3, [], [.inl 0, .inl 1, .inl 2], false⟩, ⟨"want_size", 1, [], [.inl 0], false⟩, ⟨"want_many", 2, [], [.inl 0, .inl 1, .inr (.int (0))], false⟩, ⟨"is_cut_value", 2, [], [.inl 0, .inl 1], false⟩, ⟨"want_words", 2, [], [.inl 0, .inl 1], false⟩, ⟨"want_at_most", 3, [], [.inl 0, .inl 1, .inl 2], false⟩, ⟨"is_full_cut", 2, [], [.inl 0, .inl 1], false⟩, ⟨"want_splits", 2, [], [.inl 0, .inl 1], false⟩, ⟨"listed", 2, [], [.inl 0, .inl 1], false⟩, ⟨"want_full", 2, [], [.inl 0, .inl 1], false⟩, ⟨"walked", 2, [], [.inl 0, .inl 1], false⟩, ⟨"_law_draw", 2, [], [.inl 0, .inl 1], false⟩, ⟨"_law_split", 3, [], [.inl 0, .inl 1, .inl 2], false⟩, ⟨"_law_all_cuts", 2, [], [.inl 0, .inl 1], false⟩, ⟨"all_cuts", 2, [], [.inl 0, .inl 1], false⟩, ⟨"_law_cut", 3, [], [.inl 0, .inl 1, .inl 2], false⟩, ⟨"cut_position", 2, [], [.inl 0, .inl 1], false⟩, ⟨"cut_count", 2, [], [.inl 0, .inl 1], false⟩, ⟨"cut_position", 0, ["cut", "size"], [.inl 1, .inl 0], false⟩, ⟨"splits_of", 2, [], [.inl 0, .inl 1], false⟩, ⟨"splits_of", 0, ["cut", "size"], [.inl 1, .inl 0], false⟩, ⟨"_law_words", 2, [], [.inl 0, .inl 1], false⟩, ⟨"all_cuts", 0, ["splits", "size"], [.inl 1, .inl 0], false⟩, ⟨"cut_at", 3, [], [.inl 0, .inl 1, .inl 2], false⟩, ⟨"cut_at", 0, ["position", "splits", "size"], [.inl 2, .inl 1, .inl 0], false⟩, ⟨"_law_right", 1, [], [.inl 0], true⟩, ⟨"_law_pot", 2, [], [.inl 0, .inl 1], false⟩]
def mkT (N : List Str) (i : Nat) : Tc := ⟨N, defScope (top i), N, FREE, CNS, SH⟩
def mkD (x : Str) (i : Nat) (dd : List D) (ps N : List Str) (F : Fn) : Dfn := ⟨x, defArgs (top i), defBody (top i), defScope (top i), dd, ps, mkT N i, F⟩
def b_is_integer : Sxs := .cons (.ret (.andv (.isin (.var 0) [.int]) (.nt (.isin (.var 0) [.bool])))) (.nil)
def F_is_integer : Fn := ⟨1, 1, false, b_is_integer⟩
def b_is_count : Sxs := .cons (.ret (.andv (.call "is_integer" (.cons (.var 0) (.nil)) [.inl 0]) (.cmp (.GtE) (.var 0) (.cst (.int 0))))) (.nil)
def F_is_count : Fn := ⟨1, 1, false, b_is_count⟩
def b_is_list : Sxs := .cons (.ret (.isin (.var 0) [.list, .tuple])) (.nil)
def F_is_list : Fn := ⟨1, 1, false, b_is_list⟩
def b_want_many : Sxs := .cons (.ife (.or (.not (.val (.call "is_count" (.cons (.var 0) (.nil)) [.inl 0]))) (.not (.val (.cmp2 (.LtE) (.LtE) (.var 2) (.var 0) (.var 1))))) (.cons (.never) (.nil)) (.nil)) (.nil)
def F_want_many : Fn := ⟨3, 3, false, b_want_many⟩
def b_want_at_most : Sxs := .cons (.ife (.val (.cmp (.Gt) (.var 2) (.var 1))) (.cons (.never) (.nil)) (.nil)) (.nil)
def F_want_at_most : Fn := ⟨3, 3, false, b_want_at_most⟩
def b_is_size_value : Sxs := .cons (.ret (.andv (.call "is_integer" (.cons (.var 0) (.nil)) [.inl 0]) (.cmp2 (.LtE) (.LtE) (.gl "LEAST_SIZE" (.int 2)) (.var 0) (.gl "MOST_SIZE" (.int 4))))) (.nil)
def F_is_size_value : Fn := ⟨1, 1, false, b_is_size_value⟩
def b_want_size : Sxs := .cons (.ife (.not (.val (.call "is_size_value" (.cons (.var 0) (.nil)) [.inl 0]))) (.cons (.never) (.nil)) (.nil)) (.nil)
def F_want_size : Fn := ⟨1, 1, false, b_want_size⟩
def e_is_word_value_1 : Ex := (.andv (.call "is_integer" (.cons (.var 2) (.nil)) [.inl 0]) (.cmp2 (.LtE) (.Lt) (.cst (.int 0)) (.var 2) (.var 0)))
def b_is_word_value : Sxs := .cons (.ife (.or (.not (.val (.isin (.var 1) [.tuple]))) (.val (.cmp (.Gt) (.bf (.len) (.cons (.var 1) (.nil))) (.gl "MOST_LETTERS" (.int 40))))) (.cons (.ret (.cst (.bl false))) (.nil)) (.nil)) (.cons (.ret (.bf (.all) (.cons (.comp e_is_word_value_1 (.nm 2) (.seq (.var 1)) (.yes) [2]) (.nil)))) (.nil))
def F_is_word_value : Fn := ⟨2, 3, false, b_is_word_value⟩
def e_are_words_value_1 : Ex := (.call "is_word_value" (.cons (.var 0) (.cons (.var 2) (.nil))) [.inl 0, .inl 1])
def b_are_words_value : Sxs := .cons (.ret (.andv (.call "is_list" (.cons (.var 1) (.nil)) [.inl 0]) (.andv (.cmp (.LtE) (.bf (.len) (.cons (.var 1) (.nil))) (.gl "MOST_WORDS" (.int 128))) (.bf (.all) (.cons (.comp e_are_words_value_1 (.nm 2) (.seq (.var 1)) (.yes) [2]) (.nil)))))) (.nil)
def F_are_words_value : Fn := ⟨2, 3, false, b_are_words_value⟩
def b_begins : Sxs := .cons (.ret (.cmp (.Eq) (.slc (.var 1) (.no) (.one (.bf (.len) (.cons (.var 0) (.nil))))) (.var 0))) (.nil)
def F_begins : Fn := ⟨2, 2, false, b_begins⟩
def e_split_of_1 : Ex := (.bin (.Add) (.var 1) (.tup (.cons (.var 2) (.nil))))
def b_split_of : Sxs := .cons (.ret (.comp e_split_of_1 (.nm 2) (.rng1 (.var 0)) (.yes) [2])) (.nil)
def F_split_of : Fn := ⟨2, 3, false, b_split_of⟩
def q_times_1 : Sxs := (.cons (.set 2 (.bin (.Mult) (.var 2) (.var 0))) (.nil))
def b_times : Sxs := .cons (.set 2 (.cst (.int 1))) (.cons (.for_ (.nm 3) (.rng1 (.var 1)) q_times_1) (.cons (.ret (.var 2)) (.nil)))
def F_times : Fn := ⟨2, 4, false, b_times⟩
def e_is_cut_value_1 : Ex := (.andv (.cmp (.Lt) (.var 2) (.var 3)) (.nt (.call "begins" (.cons (.var 2) (.cons (.var 3) (.nil))) [.inl 0, .inl 1])))
def b_is_cut_value : Sxs := .cons (.ife (.not (.val (.call "are_words_value" (.cons (.var 0) (.cons (.var 1) (.nil))) [.inl 0, .inl 1]))) (.cons (.ret (.cst (.bl false))) (.nil)) (.nil)) (.cons (.ret (.bf (.all) (.cons (.comp e_is_cut_value_1 (.tup (.cons (.nm 2) (.cons (.nm 3) (.nil)))) (.zip (.var 1) (.slc (.var 1) (.one (.cst (.int 1))) (.no))) (.yes) [2, 3]) (.nil)))) (.nil))
def F_is_cut_value : Fn := ⟨2, 4, false, b_is_cut_value⟩
def e_share_of_1 : Ex := (.bf (.len) (.cons (.var 3) (.nil)))
def e_share_of_2 : Ex := (.call "times" (.cons (.var 0) (.cons (.bin (.Sub) (.var 2) (.bf (.len) (.cons (.var 3) (.nil)))) (.nil))) [.inl 0, .inl 1])
def b_share_of : Sxs := .cons (.set 2 (.bf (.max) (.cons (.bin (.Add) (.lst (.cons (.cst (.int 0)) (.nil))) (.comp e_share_of_1 (.nm 3) (.seq (.var 1)) (.yes) [3])) (.nil)))) (.cons (.ret (.tup (.cons (.bf (.sum) (.cons (.comp e_share_of_2 (.nm 3) (.seq (.var 1)) (.yes) [3]) (.nil))) (.cons (.var 2) (.nil))))) (.nil))
def F_share_of : Fn := ⟨2, 4, false, b_share_of⟩
def b_is_full_cut : Sxs := .cons (.asg (.tup (.cons (.nm 2) (.cons (.nm 3) (.nil)))) (.call "share_of" (.cons (.var 0) (.cons (.var 1) (.nil))) [.inl 0, .inl 1])) (.cons (.ret (.cmp (.Eq) (.var 2) (.call "times" (.cons (.var 0) (.cons (.var 3) (.nil))) [.inl 0, .inl 1]))) (.nil))
def F_is_full_cut : Fn := ⟨2, 4, false, b_is_full_cut⟩
def q_choose_1 : Sxs := (.cons (.set 2 (.bin (.FloorDiv) (.bin (.Mult) (.var 2) (.bin (.Sub) (.var 0) (.var 3))) (.bin (.Add) (.var 3) (.cst (.int 1))))) (.nil))
def b_choose : Sxs := .cons (.set 2 (.cst (.int 1))) (.cons (.for_ (.nm 3) (.rng1 (.var 1)) q_choose_1) (.cons (.ret (.var 2)) (.nil)))
def F_choose : Fn := ⟨2, 4, false, b_choose⟩
def b_forests : Sxs := .cons (.ife (.val (.cmp (.Eq) (.var 2) (.cst (.int 0)))) (.cons (.ret (.cst (.int 1))) (.nil)) (.nil)) (.cons (.ret (.bin (.FloorDiv) (.bin (.Mult) (.var 1) (.call "choose" (.cons (.bin (.Add) (.bin (.Mult) (.var 0) (.var 2)) (.var 1)) (.cons (.var 2) (.nil))) [.inl 0, .inl 1])) (.bin (.Add) (.bin (.Mult) (.var 0) (.var 2)) (.var 1)))) (.nil))
def F_forests : Fn := ⟨3, 3, false, b_forests⟩
def k_walked_1 : Ex := (.var 6)
def v_walked_1 : Ex := (.cst (.bl true))
def t_walked_2 : Tx := (.val (.cmp (.NotEq) (.var 3) (.lst (.nil))))
def q_walked_2 : Sxs := (.cons (.set 6 (.mm (.pop) 3 (.nil))) (.cons (.ife (.val (.cmp (.NotIn) (.var 6) (.var 5))) (.cons (.set 4 (.bin (.Add) (.var 4) (.call "forests" (.cons (.var 0) (.cons (.bf (.len) (.cons (.var 3) (.nil))) (.cons (.var 2) (.nil)))) [.inl 0, .inl 1, .inl 2]))) (.cons (.ex (.mm (.extend) 3 (.cons (.rev (.call "split_of" (.cons (.var 0) (.cons (.var 6) (.nil))) [.inl 0, .inl 1])) (.nil)))) (.cons (.set 2 (.bin (.Sub) (.var 2) (.cst (.int 1)))) (.nil)))) (.nil)) (.nil)))
def b_walked : Sxs := .cons (.par [2, 3, 4] (.cons (.bin (.FloorDiv) (.bin (.Sub) (.bf (.len) (.cons (.var 1) (.nil))) (.cst (.int 1))) (.bin (.Sub) (.var 0) (.cst (.int 1)))) (.cons (.lst (.cons (.tup (.nil)) (.nil))) (.cons (.cst (.int 0)) (.nil))))) (.cons (.set 5 (.dcomp k_walked_1 v_walked_1 (.nm 6) (.seq (.var 1)) (.yes) [6])) (.cons (.whl t_walked_2 q_walked_2) (.cons (.ret (.var 4)) (.nil))))
def F_walked : Fn := ⟨2, 7, false, b_walked⟩
def t_built_1 : Tx := (.val (.cmp (.NotEq) (.var 4) (.lst (.nil))))
def q_built_1 : Sxs := (.cons (.set 6 (.mm (.pop) 4 (.nil))) (.cons (.set 7 (.call "forests" (.cons (.var 0) (.cons (.bf (.len) (.cons (.var 4) (.nil))) (.cons (.var 3) (.nil)))) [.inl 0, .inl 1, .inl 2])) (.cons (.ife (.val (.cmp (.Lt) (.var 2) (.var 7))) (.cons (.ex (.mm (.append) 5 (.cons (.var 6) (.nil)))) (.nil)) (.cons (.par [2, 3] (.cons (.bin (.Sub) (.var 2) (.var 7)) (.cons (.bin (.Sub) (.var 3) (.cst (.int 1))) (.nil)))) (.cons (.ex (.mm (.extend) 4 (.cons (.rev (.call "split_of" (.cons (.var 0) (.cons (.var 6) (.nil))) [.inl 0, .inl 1])) (.nil)))) (.nil)))) (.nil))))
def b_built : Sxs := .cons (.par [3, 4, 5] (.cons (.var 1) (.cons (.lst (.cons (.tup (.nil)) (.nil))) (.cons (.lst (.nil)) (.nil))))) (.cons (.whl t_built_1 q_built_1) (.cons (.ret (.var 5)) (.nil)))
def F_built : Fn := ⟨3, 8, false, b_built⟩
def e_listed_1 : Ex := (.call "built" (.cons (.var 0) (.cons (.var 1) (.cons (.var 2) (.nil)))) [.inl 0, .inl 1, .inl 2])
def b_listed : Sxs := .cons (.ret (.comp e_listed_1 (.nm 2) (.rng1 (.call "forests" (.cons (.var 0) (.cons (.cst (.int 1)) (.cons (.var 1) (.nil)))) [.inl 0, .inl 1, .inl 2])) (.yes) [2])) (.nil)
def F_listed : Fn := ⟨2, 3, false, b_listed⟩
def b_want_splits : Sxs := .cons (.ex (.call "want_size" (.cons (.var 0) (.nil)) [.inl 0])) (.cons (.ex (.call "want_many" (.cons (.var 1) (.cons (.gl "MOST_SPLITS" (.int 40)) (.nil))) [.inl 0, .inl 1, .inr (.int 0)])) (.nil))
def F_want_splits : Fn := ⟨2, 2, false, b_want_splits⟩
def b_want_words : Sxs := .cons (.ex (.call "want_size" (.cons (.var 0) (.nil)) [.inl 0])) (.cons (.ife (.or (.not (.val (.call "is_list" (.cons (.var 1) (.nil)) [.inl 0]))) (.not (.val (.call "is_cut_value" (.cons (.var 0) (.cons (.bf (.list) (.cons (.var 1) (.nil))) (.nil))) [.inl 0, .inl 1])))) (.cons (.never) (.nil)) (.nil)) (.nil))
def F_want_words : Fn := ⟨2, 2, false, b_want_words⟩
def b_want_full : Sxs := .cons (.ex (.call "want_words" (.cons (.var 0) (.cons (.var 1) (.nil))) [.inl 0, .inl 1])) (.cons (.ife (.not (.val (.call "is_full_cut" (.cons (.var 0) (.cons (.bf (.list) (.cons (.var 1) (.nil))) (.nil))) [.inl 0, .inl 1]))) (.cons (.never) (.nil)) (.nil)) (.cons (.ex (.call "want_at_most" (.cons (.cst (.str "splits")) (.cons (.gl "MOST_SPLITS" (.int 40)) (.cons (.bin (.FloorDiv) (.bin (.Sub) (.bf (.len) (.cons (.var 1) (.nil))) (.cst (.int 1))) (.bin (.Sub) (.var 0) (.cst (.int 1)))) (.nil)))) [.inl 0, .inl 1, .inl 2])) (.cons (.ret (.bf (.list) (.cons (.var 1) (.nil)))) (.nil))))
def F_want_full : Fn := ⟨2, 2, false, b_want_full⟩
def b_cut_count : Sxs := .cons (.ex (.call "want_splits" (.cons (.var 0) (.cons (.var 1) (.nil))) [.inl 0, .inl 1])) (.cons (.ret (.call "forests" (.cons (.var 0) (.cons (.cst (.int 1)) (.cons (.var 1) (.nil)))) [.inl 0, .inl 1, .inl 2])) (.nil))
def F_cut_count : Fn := ⟨2, 2, false, b_cut_count⟩
def b_all_cuts : Sxs := .cons (.ex (.call "want_splits" (.cons (.var 0) (.cons (.var 1) (.nil))) [.inl 0, .inl 1])) (.cons (.ex (.call "want_at_most" (.cons (.cst (.str "cuts")) (.cons (.gl "MOST_LISTED" (.int 600)) (.cons (.call "forests" (.cons (.var 0) (.cons (.cst (.int 1)) (.cons (.var 1) (.nil)))) [.inl 0, .inl 1, .inl 2]) (.nil)))) [.inl 0, .inl 1, .inl 2])) (.cons (.ret (.call "listed" (.cons (.var 0) (.cons (.var 1) (.nil))) [.inl 0, .inl 1])) (.nil)))
def F_all_cuts : Fn := ⟨2, 2, false, b_all_cuts⟩
def b_splits_of : Sxs := .cons (.ret (.bin (.FloorDiv) (.bin (.Sub) (.bf (.len) (.cons (.call "want_full" (.cons (.var 0) (.cons (.var 1) (.nil))) [.inl 0, .inl 1]) (.nil))) (.cst (.int 1))) (.bin (.Sub) (.var 0) (.cst (.int 1))))) (.nil)
def F_splits_of : Fn := ⟨2, 2, false, b_splits_of⟩
def b_cut_position : Sxs := .cons (.ret (.call "walked" (.cons (.var 0) (.cons (.call "want_full" (.cons (.var 0) (.cons (.var 1) (.nil))) [.inl 0, .inl 1]) (.nil))) [.inl 0, .inl 1])) (.nil)
def F_cut_position : Fn := ⟨2, 2, false, b_cut_position⟩
def b_cut_at : Sxs := .cons (.ex (.call "want_splits" (.cons (.var 0) (.cons (.var 1) (.nil))) [.inl 0, .inl 1])) (.cons (.ife (.or (.not (.val (.call "is_count" (.cons (.var 2) (.nil)) [.inl 0]))) (.val (.cmp (.GtE) (.var 2) (.call "forests" (.cons (.var 0) (.cons (.cst (.int 1)) (.cons (.var 1) (.nil)))) [.inl 0, .inl 1, .inl 2])))) (.cons (.never) (.nil)) (.nil)) (.cons (.ret (.call "built" (.cons (.var 0) (.cons (.var 1) (.cons (.var 2) (.nil)))) [.inl 0, .inl 1, .inl 2])) (.nil)))
def F_cut_at : Fn := ⟨3, 3, false, b_cut_at⟩
def b__law_pot : Sxs := .cons (.set 2 (.ife (.val (.cmp (.Lt) (.var 1) (.bf (.len) (.cons (.var 0) (.nil))))) (.bf (.abs) (.cons (.idx (.var 0) (.var 1)) (.nil))) (.bin (.Add) (.bin (.Mult) (.cst (.int 4733)) (.var 1)) (.cst (.int 1337))))) (.cons (.ret (.lst (.cons (.bf (.max) (.cons (.cst (.int 0)) (.cons (.bin (.Sub) (.var 2) (.bin (.Pow) (.cst (.int 10)) (.cst (.int 18)))) (.nil)))) (.cons (.bin (.Add) (.bin (.Mod) (.bf (.int) (.cons (.bin (.Add) (.bin (.Add) (.bin (.Mult) (.bin (.Mod) (.bf (.int) (.cons (.var 2) (.nil))) (.cst (.int 2147483549))) (.cst (.int 45007))) (.bin (.Mult) (.cst (.int 6797)) (.var 1))) (.cst (.int 711))) (.nil))) (.cst (.int 2147483563))) (.cst (.int 1))) (.nil))))) (.nil))
def F__law_pot : Fn := ⟨2, 3, false, b__law_pot⟩
def b__law_draw : Sxs := .cons (.ife (.val (.cmp (.Gt) (.idx (.var 0) (.cst (.int 0))) (.cst (.int 0)))) (.cons (.asg (.tup (.cons (.sub 0 (.cst (.int 0))) (.cons (.nm 2) (.nil)))) (.bf (.divmod) (.cons (.idx (.var 0) (.cst (.int 0))) (.cons (.var 1) (.nil))))) (.cons (.ret (.var 2)) (.nil))) (.nil)) (.cons (.asg (.sub 0 (.cst (.int 1))) (.bin (.Mod) (.bf (.int) (.cons (.bin (.Add) (.bin (.Mult) (.idx (.var 0) (.cst (.int 1))) (.cst (.int 38821))) (.cst (.int 6613))) (.nil))) (.cst (.int 2147483587)))) (.cons (.ret (.bin (.Mod) (.bf (.int) (.cons (.bin (.FloorDiv) (.bin (.Mod) (.bf (.int) (.cons (.bin (.Mult) (.idx (.var 0) (.cst (.int 1))) (.idx (.var 0) (.cst (.int 1)))) (.nil))) (.cst (.int 2147483549))) (.cst (.int 33))) (.nil))) (.var 1))) (.nil)))
def F__law_draw : Fn := ⟨2, 3, true, b__law_draw⟩
def b__law_pick : Sxs := .cons (.ret (.idx (.var 1) (.call "_law_draw" (.cons (.var 0) (.cons (.bf (.len) (.cons (.var 1) (.nil))) (.nil))) [.inl 0, .inl 1]))) (.nil)
def F__law_pick : Fn := ⟨2, 2, true, b__law_pick⟩
def b__law_words : Sxs := .cons (.ret (.bin (.Add) (.bin (.Mult) (.bin (.Sub) (.var 0) (.cst (.int 1))) (.var 1)) (.cst (.int 1)))) (.nil)
def F__law_words : Fn := ⟨2, 2, false, b__law_words⟩
def e__law_split_1 : Ex := (.bin (.Add) (.var 3) (.tup (.cons (.var 4) (.nil))))
def b__law_split : Sxs := .cons (.set 3 (.idx (.var 1) (.var 2))) (.cons (.ret (.bin (.Add) (.bin (.Add) (.slc (.var 1) (.no) (.one (.var 2))) (.comp e__law_split_1 (.nm 4) (.rng1 (.var 0)) (.yes) [4])) (.slc (.var 1) (.one (.bin (.Add) (.var 2) (.cst (.int 1)))) (.no)))) (.nil))
def F__law_split : Fn := ⟨3, 5, false, b__law_split⟩
def q__law_cut_1 : Sxs := (.cons (.set 3 (.call "_law_split" (.cons (.var 1) (.cons (.var 3) (.cons (.call "_law_draw" (.cons (.var 0) (.cons (.bf (.len) (.cons (.var 3) (.nil))) (.nil))) [.inl 0, .inl 1]) (.nil)))) [.inl 0, .inl 1, .inl 2])) (.nil))
def b__law_cut : Sxs := .cons (.set 3 (.lst (.cons (.tup (.nil)) (.nil)))) (.cons (.for_ (.nm 4) (.rng1 (.var 2)) q__law_cut_1) (.cons (.ret (.var 3)) (.nil)))
def F__law_cut : Fn := ⟨3, 5, true, b__law_cut⟩
def q__law_all_cuts_1 : Sxs := (.cons (.asg (.sub 4 (.bf (.tuple) (.cons (.call "_law_split" (.cons (.var 0) (.cons (.bf (.list) (.cons (.var 5) (.nil))) (.cons (.var 6) (.nil)))) [.inl 0, .inl 1, .inl 2]) (.nil)))) (.cst (.int 1))) (.nil))
def q__law_all_cuts_2 : Sxs := (.cons (.for_ (.nm 6) (.rng1 (.bf (.len) (.cons (.var 5) (.nil)))) q__law_all_cuts_1) (.nil))
def q__law_all_cuts_3 : Sxs := (.cons (.set 4 (.dct (.nil) (.nil))) (.cons (.for_ (.nm 5) (.seq (.var 2)) q__law_all_cuts_2) (.cons (.set 2 (.var 4)) (.nil))))
def e__law_all_cuts_4 : Ex := (.bf (.list) (.cons (.var 5) (.nil)))
def b__law_all_cuts : Sxs := .cons (.set 2 (.dctN (.tup (.cons (.tup (.nil)) (.nil))) (.cst (.int 1)))) (.cons (.for_ (.nm 3) (.rng1 (.var 1)) q__law_all_cuts_3) (.cons (.ret (.comp e__law_all_cuts_4 (.nm 5) (.seq (.bf (.sorted) (.cons (.var 2) (.nil)))) (.yes) [5])) (.nil)))
def F__law_all_cuts : Fn := ⟨2, 7, false, b__law_all_cuts⟩
def q__law_right_1 : Sxs := (.cons (.set 5 (.call "_law_draw" (.cons (.var 0) (.cons (.bf (.len) (.cons (.var 3) (.nil))) (.nil))) [.inl 0, .inl 1])) (.cons (.set 6 (.idx (.var 3) (.var 5))) (.cons (.set 7 (.lst (.cons (.call "cut_position" (.cons (.var 1) (.cons (.var 6) (.nil))) [.inl 0, .inl 1]) (.cons (.call "cut_position" (.cons (.bf (.tuple) (.cons (.var 6) (.nil))) (.cons (.var 1) (.nil))) [.inl 1, .inl 0]) (.cons (.call "splits_of" (.cons (.var 1) (.cons (.var 6) (.nil))) [.inl 0, .inl 1]) (.cons (.call "splits_of" (.cons (.bf (.tuple) (.cons (.var 6) (.nil))) (.cons (.var 1) (.nil))) [.inl 1, .inl 0]) (.nil))))))) (.cons (.ife (.or (.val (.cmp (.NotEq) (.bf (.repr) (.cons (.var 7) (.nil))) (.bf (.repr) (.cons (.lst (.cons (.var 5) (.cons (.var 5) (.cons (.var 2) (.cons (.var 2) (.nil)))))) (.nil))))) (.val (.cmp (.NotEq) (.bf (.len) (.cons (.var 6) (.nil))) (.call "_law_words" (.cons (.var 1) (.cons (.var 2) (.nil))) [.inl 0, .inl 1])))) (.cons (.ret (.cst (.bl false))) (.nil)) (.nil)) (.cons (.ife (.val (.cmp (.NotEq) (.bf (.repr) (.cons (.lst (.cons (.call "cut_at" (.cons (.var 1) (.cons (.var 2) (.cons (.var 5) (.nil)))) [.inl 0, .inl 1, .inl 2]) (.cons (.call "cut_at" (.cons (.var 5) (.cons (.var 2) (.cons (.var 1) (.nil)))) [.inl 2, .inl 1, .inl 0]) (.nil)))) (.nil))) (.bf (.repr) (.cons (.lst (.cons (.var 6) (.cons (.var 6) (.nil)))) (.nil))))) (.cons (.ret (.cst (.bl false))) (.nil)) (.nil)) (.nil))))))
def b__law_right : Sxs := .cons (.set 1 (.bin (.Add) (.cst (.int 2)) (.call "_law_draw" (.cons (.var 0) (.cons (.cst (.int 3)) (.nil))) [.inl 0, .inl 1]))) (.cons (.set 2 (.call "_law_draw" (.cons (.var 0) (.cons (.idx (.dct (.cons (.cst (.int 2)) (.cons (.cst (.int 3)) (.cons (.cst (.int 4)) (.nil)))) (.cons (.cst (.int 7)) (.cons (.cst (.int 5)) (.cons (.cst (.int 4)) (.nil))))) (.var 1)) (.nil))) [.inl 0, .inl 1])) (.cons (.set 3 (.call "_law_all_cuts" (.cons (.var 1) (.cons (.var 2) (.nil))) [.inl 0, .inl 1])) (.cons (.ife (.or (.val (.cmp (.NotEq) (.bf (.repr) (.cons (.lst (.cons (.call "all_cuts" (.cons (.var 1) (.cons (.var 2) (.nil))) [.inl 0, .inl 1]) (.cons (.call "all_cuts" (.cons (.var 2) (.cons (.var 1) (.nil))) [.inl 1, .inl 0]) (.nil)))) (.nil))) (.bf (.repr) (.cons (.lst (.cons (.var 3) (.cons (.var 3) (.nil)))) (.nil))))) (.val (.cmp (.NotEq) (.call "cut_count" (.cons (.var 1) (.cons (.var 2) (.nil))) [.inl 0, .inl 1]) (.bf (.len) (.cons (.var 3) (.nil)))))) (.cons (.ret (.cst (.bl false))) (.nil)) (.nil)) (.cons (.for_ (.nm 4) (.rng1 (.cst (.int 8))) q__law_right_1) (.cons (.set 6 (.bf (.sorted) (.cons (.call "_law_cut" (.cons (.var 0) (.cons (.var 1) (.cons (.var 2) (.nil)))) [.inl 0, .inl 1, .inl 2]) (.nil)))) (.cons (.ife (.val (.cmp (.NotEq) (.call "cut_position" (.cons (.var 1) (.cons (.var 6) (.nil))) [.inl 0, .inl 1]) (.mt (.index) (.var 3) (.cons (.var 6) (.nil))))) (.cons (.ret (.cst (.bl false))) (.nil)) (.nil)) (.cons (.spoil 7 "all_cuts" (.cons (.var 1) (.cons (.var 2) (.nil))) [.inl 0, .inl 1] [[0], []]) (.cons (.ret (.andv (.cmp (.Eq) (.bf (.repr) (.cons (.call "all_cuts" (.cons (.var 1) (.cons (.var 2) (.nil))) [.inl 0, .inl 1]) (.nil))) (.bf (.repr) (.cons (.var 3) (.nil)))) (.cmp (.Eq) (.bf (.len) (.cons (.call "all_cuts" (.cons (.cst (.int 2)) (.cons (.cst (.int 7)) (.nil))) [.inl 0, .inl 1]) (.nil))) (.cst (.int 429))))) (.nil)))))))))
def F__law_right : Fn := ⟨1, 8, true, b__law_right⟩
def q_law_1 : Sxs := (.cons (.ife (.not (.val (.call1 "_law_right" (.call "_law_pot" (.cons (.var 0) (.cons (.var 1) (.nil))) [.inl 0, .inl 1])))) (.cons (.ret (.cst (.bl false))) (.nil)) (.nil)) (.nil))
def b_law : Sxs := .cons (.for_ (.nm 1) (.rng1 (.bf (.max) (.cons (.cst (.int 1)) (.cons (.bf (.min) (.cons (.cst (.int 3)) (.cons (.bf (.len) (.cons (.var 0) (.nil))) (.nil)))) (.nil))))) q_law_1) (.cons (.ret (.cst (.bl true))) (.nil))
def F_law : Fn := ⟨1, 2, false, b_law⟩
def TAB : List (Str × Fn) := [(("is_integer" : Str), F_is_integer), (("is_count" : Str), F_is_count), (("is_list" : Str), F_is_list), (("want_many" : Str), F_want_many), (("want_at_most" : Str), F_want_at_most), (("is_size_value" : Str), F_is_size_value), (("want_size" : Str), F_want_size), (("is_word_value" : Str), F_is_word_value), (("are_words_value" : Str), F_are_words_value), (("begins" : Str), F_begins), (("split_of" : Str), F_split_of), (("times" : Str), F_times), (("is_cut_value" : Str), F_is_cut_value), (("share_of" : Str), F_share_of), (("is_full_cut" : Str), F_is_full_cut), (("choose" : Str), F_choose), (("forests" : Str), F_forests), (("walked" : Str), F_walked), (("built" : Str), F_built), (("listed" : Str), F_listed), (("want_splits" : Str), F_want_splits), (("want_words" : Str), F_want_words), (("want_full" : Str), F_want_full), (("cut_count" : Str), F_cut_count), (("all_cuts" : Str), F_all_cuts), (("splits_of" : Str), F_splits_of), (("cut_position" : Str), F_cut_position), (("cut_at" : Str), F_cut_at), (("_law_pot" : Str), F__law_pot), (("_law_draw" : Str), F__law_draw), (("_law_pick" : Str), F__law_pick), (("_law_words" : Str), F__law_words), (("_law_split" : Str), F__law_split), (("_law_cut" : Str), F__law_cut), (("_law_all_cuts" : Str), F__law_all_cuts), (("_law_right" : Str), F__law_right), (("law" : Str), F_law)]
def Γ : Str → Option Fn := fun x => (TAB.find? fun p => decide (p.1 = x)).map (·.2)
theorem g_is_integer : Γ "is_integer" = some F_is_integer := by kernel_rfl
def d_is_integer : Dfn := mkD "is_integer" 11 [] ["value"] ["value"] F_is_integer
theorem g_is_count : Γ "is_count" = some F_is_count := by kernel_rfl
def d_is_count : Dfn := mkD "is_count" 12 [] ["value"] ["value"] F_is_count
theorem g_is_list : Γ "is_list" = some F_is_list := by kernel_rfl
def d_is_list : Dfn := mkD "is_list" 13 [] ["value"] ["value"] F_is_list
theorem g_want_many : Γ "want_many" = some F_want_many := by kernel_rfl
def d_want_many : Dfn := mkD "want_many" 14 [.int (0)] ["value", "most", "least"] ["value", "most", "least"] F_want_many
theorem g_want_at_most : Γ "want_at_most" = some F_want_at_most := by kernel_rfl
def d_want_at_most : Dfn := mkD "want_at_most" 15 [] ["what", "limit", "number"] ["what", "limit", "number"] F_want_at_most
theorem g_is_size_value : Γ "is_size_value" = some F_is_size_value := by kernel_rfl
def d_is_size_value : Dfn := mkD "is_size_value" 21 [] ["value"] ["value"] F_is_size_value
theorem g_want_size : Γ "want_size" = some F_want_size := by kernel_rfl
def d_want_size : Dfn := mkD "want_size" 22 [] ["size"] ["size"] F_want_size
theorem g_is_word_value : Γ "is_word_value" = some F_is_word_value := by kernel_rfl
def d_is_word_value : Dfn := mkD "is_word_value" 23 [] ["size", "value"] ["size", "value", "one"] F_is_word_value
theorem g_are_words_value : Γ "are_words_value" = some F_are_words_value := by kernel_rfl
def d_are_words_value : Dfn := mkD "are_words_value" 24 [] ["size", "value"] ["size", "value", "one"] F_are_words_value
theorem g_begins : Γ "begins" = some F_begins := by kernel_rfl
def d_begins : Dfn := mkD "begins" 25 [] ["word", "other"] ["word", "other"] F_begins
theorem g_split_of : Γ "split_of" = some F_split_of := by kernel_rfl
def d_split_of : Dfn := mkD "split_of" 26 [] ["size", "word"] ["size", "word", "letter"] F_split_of
theorem g_times : Γ "times" = some F_times := by kernel_rfl
def d_times : Dfn := mkD "times" 27 [] ["size", "many"] ["size", "many", "found", "turn"] F_times
theorem g_is_cut_value : Γ "is_cut_value" = some F_is_cut_value := by kernel_rfl
def d_is_cut_value : Dfn := mkD "is_cut_value" 29 [] ["size", "value"] ["size", "value", "near", "far"] F_is_cut_value
theorem g_share_of : Γ "share_of" = some F_share_of := by kernel_rfl
def d_share_of : Dfn := mkD "share_of" 30 [] ["size", "words"] ["size", "words", "longest", "word"] F_share_of
theorem g_is_full_cut : Γ "is_full_cut" = some F_is_full_cut := by kernel_rfl
def d_is_full_cut : Dfn := mkD "is_full_cut" 31 [] ["size", "words"] ["size", "words", "number", "longest"] F_is_full_cut
theorem g_choose : Γ "choose" = some F_choose := by kernel_rfl
def d_choose : Dfn := mkD "choose" 35 [] ["top", "many"] ["top", "many", "found", "one"] F_choose
theorem g_forests : Γ "forests" = some F_forests := by kernel_rfl
def d_forests : Dfn := mkD "forests" 36 [] ["size", "many", "splits"] ["size", "many", "splits"] F_forests
theorem g_walked : Γ "walked" = some F_walked := by kernel_rfl
def d_walked : Dfn := mkD "walked" 37 [] ["size", "cut"] ["size", "cut", "left", "waiting", "found", "known", "word"] F_walked
theorem g_built : Γ "built" = some F_built := by kernel_rfl
def d_built : Dfn := mkD "built" 38 [] ["size", "splits", "position"] ["size", "splits", "position", "left", "waiting", "found", "word", "ahead"] F_built
theorem g_listed : Γ "listed" = some F_listed := by kernel_rfl
def d_listed : Dfn := mkD "listed" 39 [] ["size", "splits"] ["size", "splits", "position"] F_listed
theorem g_want_splits : Γ "want_splits" = some F_want_splits := by kernel_rfl
def d_want_splits : Dfn := mkD "want_splits" 40 [] ["size", "splits"] ["size", "splits"] F_want_splits
theorem g_want_words : Γ "want_words" = some F_want_words := by kernel_rfl
def d_want_words : Dfn := mkD "want_words" 41 [] ["size", "cut"] ["size", "cut"] F_want_words
theorem g_want_full : Γ "want_full" = some F_want_full := by kernel_rfl
def d_want_full : Dfn := mkD "want_full" 42 [] ["size", "cut"] ["size", "cut"] F_want_full
theorem g_cut_count : Γ "cut_count" = some F_cut_count := by kernel_rfl
def d_cut_count : Dfn := mkD "cut_count" 43 [] ["size", "splits"] ["size", "splits"] F_cut_count
theorem g_all_cuts : Γ "all_cuts" = some F_all_cuts := by kernel_rfl
def d_all_cuts : Dfn := mkD "all_cuts" 44 [] ["size", "splits"] ["size", "splits"] F_all_cuts
theorem g_splits_of : Γ "splits_of" = some F_splits_of := by kernel_rfl
def d_splits_of : Dfn := mkD "splits_of" 45 [] ["size", "cut"] ["size", "cut"] F_splits_of
theorem g_cut_position : Γ "cut_position" = some F_cut_position := by kernel_rfl
def d_cut_position : Dfn := mkD "cut_position" 46 [] ["size", "cut"] ["size", "cut"] F_cut_position
theorem g_cut_at : Γ "cut_at" = some F_cut_at := by kernel_rfl
def d_cut_at : Dfn := mkD "cut_at" 47 [] ["size", "splits", "position"] ["size", "splits", "position"] F_cut_at
theorem g__law_pot : Γ "_law_pot" = some F__law_pot := by kernel_rfl
def d__law_pot : Dfn := mkD "_law_pot" 49 [] ["script", "k"] ["script", "k", "cell"] F__law_pot
theorem g__law_draw : Γ "_law_draw" = some F__law_draw := by kernel_rfl
def d__law_draw : Dfn := mkD "_law_draw" 50 [] ["pot", "many"] ["pot", "many", "digit"] F__law_draw
theorem g__law_pick : Γ "_law_pick" = some F__law_pick := by kernel_rfl
def d__law_pick : Dfn := mkD "_law_pick" 51 [] ["pot", "some"] ["pot", "some"] F__law_pick
theorem g__law_words : Γ "_law_words" = some F__law_words := by kernel_rfl
def d__law_words : Dfn := mkD "_law_words" 52 [] ["size", "splits"] ["size", "splits"] F__law_words
theorem g__law_split : Γ "_law_split" = some F__law_split := by kernel_rfl
def d__law_split : Dfn := mkD "_law_split" 53 [] ["size", "cut", "at"] ["size", "cut", "at", "word", "letter"] F__law_split
theorem g__law_cut : Γ "_law_cut" = some F__law_cut := by kernel_rfl
def d__law_cut : Dfn := mkD "_law_cut" 54 [] ["pot", "size", "splits"] ["pot", "size", "splits", "found", "turn"] F__law_cut
theorem g__law_all_cuts : Γ "_law_all_cuts" = some F__law_all_cuts := by kernel_rfl
def d__law_all_cuts : Dfn := mkD "_law_all_cuts" 55 [] ["size", "splits"] ["size", "splits", "found", "turn", "later", "cut", "at"] F__law_all_cuts
theorem g__law_right : Γ "_law_right" = some F__law_right := by kernel_rfl
def d__law_right : Dfn := mkD "_law_right" 56 [] ["pot"] ["pot", "size", "splits", "due", "turn", "at", "cut", "told"] F__law_right
theorem g_law : Γ "law" = some F_law := by kernel_rfl
def d_law : Dfn := mkD "law" 57 [] ["script"] ["script", "k"] F_law
def LD : List Dfn := [d_is_integer, d_is_count, d_is_list, d_want_many, d_want_at_most, d_is_size_value, d_want_size, d_is_word_value, d_are_words_value, d_begins, d_split_of, d_times, d_is_cut_value, d_share_of, d_is_full_cut, d_choose, d_forests, d_walked, d_built, d_listed, d_want_splits, d_want_words, d_want_full, d_cut_count, d_all_cuts, d_splits_of, d_cut_position, d_cut_at, d__law_pot, d__law_draw, d__law_pick, d__law_words, d__law_split, d__law_cut, d__law_all_cuts, d__law_right, d_law]
theorem ok_is_integer : DfnOk Γ d_is_integer := ⟨C8.fnScope_by (by decide +kernel), rfl, g_is_integer, by kernel_rfl, rfl, rfl⟩
theorem ok_is_count : DfnOk Γ d_is_count := ⟨C8.fnScope_by (by decide +kernel), rfl, g_is_count, by kernel_rfl, rfl, rfl⟩
theorem ok_is_list : DfnOk Γ d_is_list := ⟨C8.fnScope_by (by decide +kernel), rfl, g_is_list, by kernel_rfl, rfl, rfl⟩
theorem ok_want_many : DfnOk Γ d_want_many := ⟨C8.fnScope_by (by decide +kernel), rfl, g_want_many, by kernel_rfl, rfl, rfl⟩
theorem ok_want_at_most : DfnOk Γ d_want_at_most := ⟨C8.fnScope_by (by decide +kernel), rfl, g_want_at_most, by kernel_rfl, rfl, rfl⟩
theorem ok_is_size_value : DfnOk Γ d_is_size_value := ⟨C8.fnScope_by (by decide +kernel), rfl, g_is_size_value, by kernel_rfl, rfl, rfl⟩
theorem ok_want_size : DfnOk Γ d_want_size := ⟨C8.fnScope_by (by decide +kernel), rfl, g_want_size, by kernel_rfl, rfl, rfl⟩
theorem ok_is_word_value : DfnOk Γ d_is_word_value := ⟨C8.fnScope_by (by decide +kernel), rfl, g_is_word_value, by kernel_rfl, rfl, rfl⟩
theorem ok_are_words_value : DfnOk Γ d_are_words_value := ⟨C8.fnScope_by (by decide +kernel), rfl, g_are_words_value, by kernel_rfl, rfl, rfl⟩
theorem ok_begins : DfnOk Γ d_begins := ⟨C8.fnScope_by (by decide +kernel), rfl, g_begins, by kernel_rfl, rfl, rfl⟩
theorem ok_split_of : DfnOk Γ d_split_of := ⟨C8.fnScope_by (by decide +kernel), rfl, g_split_of, by kernel_rfl, rfl, rfl⟩
theorem ok_times : DfnOk Γ d_times := ⟨C8.fnScope_by (by decide +kernel), rfl, g_times, by kernel_rfl, rfl, rfl⟩
theorem ok_is_cut_value : DfnOk Γ d_is_cut_value := ⟨C8.fnScope_by (by decide +kernel), rfl, g_is_cut_value, by kernel_rfl, rfl, rfl⟩
theorem ok_share_of : DfnOk Γ d_share_of := ⟨C8.fnScope_by (by decide +kernel), rfl, g_share_of, by kernel_rfl, rfl, rfl⟩
theorem ok_is_full_cut : DfnOk Γ d_is_full_cut := ⟨C8.fnScope_by (by decide +kernel), rfl, g_is_full_cut, by kernel_rfl, rfl, rfl⟩
theorem ok_choose : DfnOk Γ d_choose := ⟨C8.fnScope_by (by decide +kernel), rfl, g_choose, by kernel_rfl, rfl, rfl⟩
theorem ok_forests : DfnOk Γ d_forests := ⟨C8.fnScope_by (by decide +kernel), rfl, g_forests, by kernel_rfl, rfl, rfl⟩
theorem ok_walked : DfnOk Γ d_walked := ⟨C8.fnScope_by (by decide +kernel), rfl, g_walked, by kernel_rfl, rfl, rfl⟩
theorem ok_built : DfnOk Γ d_built := ⟨C8.fnScope_by (by decide +kernel), rfl, g_built, by kernel_rfl, rfl, rfl⟩
theorem ok_listed : DfnOk Γ d_listed := ⟨C8.fnScope_by (by decide +kernel), rfl, g_listed, by kernel_rfl, rfl, rfl⟩
theorem ok_want_splits : DfnOk Γ d_want_splits := ⟨C8.fnScope_by (by decide +kernel), rfl, g_want_splits, by kernel_rfl, rfl, rfl⟩
theorem ok_want_words : DfnOk Γ d_want_words := ⟨C8.fnScope_by (by decide +kernel), rfl, g_want_words, by kernel_rfl, rfl, rfl⟩
theorem ok_want_full : DfnOk Γ d_want_full := ⟨C8.fnScope_by (by decide +kernel), rfl, g_want_full, by kernel_rfl, rfl, rfl⟩
theorem ok_cut_count : DfnOk Γ d_cut_count := ⟨C8.fnScope_by (by decide +kernel), rfl, g_cut_count, by kernel_rfl, rfl, rfl⟩
theorem ok_all_cuts : DfnOk Γ d_all_cuts := ⟨C8.fnScope_by (by decide +kernel), rfl, g_all_cuts, by kernel_rfl, rfl, rfl⟩
theorem ok_splits_of : DfnOk Γ d_splits_of := ⟨C8.fnScope_by (by decide +kernel), rfl, g_splits_of, by kernel_rfl, rfl, rfl⟩
theorem ok_cut_position : DfnOk Γ d_cut_position := ⟨C8.fnScope_by (by decide +kernel), rfl, g_cut_position, by kernel_rfl, rfl, rfl⟩
theorem ok_cut_at : DfnOk Γ d_cut_at := ⟨C8.fnScope_by (by decide +kernel), rfl, g_cut_at, by kernel_rfl, rfl, rfl⟩
theorem ok__law_pot : DfnOk Γ d__law_pot := ⟨C8.fnScope_by (by decide +kernel), rfl, g__law_pot, by kernel_rfl, rfl, rfl⟩
theorem ok__law_draw : DfnOk Γ d__law_draw := ⟨C8.fnScope_by (by decide +kernel), rfl, g__law_draw, by kernel_rfl, rfl, rfl⟩
theorem ok__law_pick : DfnOk Γ d__law_pick := ⟨C8.fnScope_by (by decide +kernel), rfl, g__law_pick, by kernel_rfl, rfl, rfl⟩
theorem ok__law_words : DfnOk Γ d__law_words := ⟨C8.fnScope_by (by decide +kernel), rfl, g__law_words, by kernel_rfl, rfl, rfl⟩
theorem ok__law_split : DfnOk Γ d__law_split := ⟨C8.fnScope_by (by decide +kernel), rfl, g__law_split, by kernel_rfl, rfl, rfl⟩
theorem ok__law_cut : DfnOk Γ d__law_cut := ⟨C8.fnScope_by (by decide +kernel), rfl, g__law_cut, by kernel_rfl, rfl, rfl⟩
theorem ok__law_all_cuts : DfnOk Γ d__law_all_cuts := ⟨C8.fnScope_by (by decide +kernel), rfl, g__law_all_cuts, by kernel_rfl, rfl, rfl⟩
theorem ok__law_right : DfnOk Γ d__law_right := ⟨C8.fnScope_by (by decide +kernel), rfl, g__law_right, by kernel_rfl, rfl, rfl⟩
theorem ok_law : DfnOk Γ d_law := ⟨C8.fnScope_by (by decide +kernel), rfl, g_law, by kernel_rfl, rfl, rfl⟩
theorem okL : ∀ d ∈ LD, DfnOk Γ d := (allC ok_is_integer (allC ok_is_count (allC ok_is_list (allC ok_want_many (allC ok_want_at_most (allC ok_is_size_value (allC ok_want_size (allC ok_is_word_value (allC ok_are_words_value (allC ok_begins (allC ok_split_of (allC ok_times (allC ok_is_cut_value (allC ok_share_of (allC ok_is_full_cut (allC ok_choose (allC ok_forests (allC ok_walked (allC ok_built (allC ok_listed (allC ok_want_splits (allC ok_want_words (allC ok_want_full (allC ok_cut_count (allC ok_all_cuts (allC ok_splits_of (allC ok_cut_position (allC ok_cut_at (allC ok__law_pot (allC ok__law_draw (allC ok__law_pick (allC ok__law_words (allC ok__law_split (allC ok__law_cut (allC ok__law_all_cuts (allC ok__law_right (allC ok_law allN)))))))))))))))))))))))))))))))))))))
theorem shL : ∀ d ∈ LD, d.T.shapes = SH ∧ d.T.free = FREE ∧ d.T.cns = CNS := (allC ⟨rfl, rfl, rfl⟩ (allC ⟨rfl, rfl, rfl⟩ (allC ⟨rfl, rfl, rfl⟩ (allC ⟨rfl, rfl, rfl⟩ (allC ⟨rfl, rfl, rfl⟩ (allC ⟨rfl, rfl, rfl⟩ (allC ⟨rfl, rfl, rfl⟩ (allC ⟨rfl, rfl, rfl⟩ (allC ⟨rfl, rfl, rfl⟩ (allC ⟨rfl, rfl, rfl⟩ (allC ⟨rfl, rfl, rfl⟩ (allC ⟨rfl, rfl, rfl⟩ (allC ⟨rfl, rfl, rfl⟩ (allC ⟨rfl, rfl, rfl⟩ (allC ⟨rfl, rfl, rfl⟩ (allC ⟨rfl, rfl, rfl⟩ (allC ⟨rfl, rfl, rfl⟩ (allC ⟨rfl, rfl, rfl⟩ (allC ⟨rfl, rfl, rfl⟩ (allC ⟨rfl, rfl, rfl⟩ (allC ⟨rfl, rfl, rfl⟩ (allC ⟨rfl, rfl, rfl⟩ (allC ⟨rfl, rfl, rfl⟩ (allC ⟨rfl, rfl, rfl⟩ (allC ⟨rfl, rfl, rfl⟩ (allC ⟨rfl, rfl, rfl⟩ (allC ⟨rfl, rfl, rfl⟩ (allC ⟨rfl, rfl, rfl⟩ (allC ⟨rfl, rfl, rfl⟩ (allC ⟨rfl, rfl, rfl⟩ (allC ⟨rfl, rfl, rfl⟩ (allC ⟨rfl, rfl, rfl⟩ (allC ⟨rfl, rfl, rfl⟩ (allC ⟨rfl, rfl, rfl⟩ (allC ⟨rfl, rfl, rfl⟩ (allC ⟨rfl, rfl, rfl⟩ (allC ⟨rfl, rfl, rfl⟩ allN)))))))))))))))))))))))))))))))))))))
theorem sh_0 : ShpOk d_is_integer ⟨"is_integer", 1, [], [.inl 0], false⟩ := ⟨by kernel_rfl, .inl ⟨rfl, fun _ _ _ _ _ _ us ws h1 h2 => match us, ws, h1, h2 with | [_], [], _, _ => by kernel_rfl⟩, fun h => nomatch h⟩
theorem sh_1 : ShpOk d_is_count ⟨"is_count", 1, [], [.inl 0], false⟩ := ⟨by kernel_rfl, .inl ⟨rfl, fun _ _ _ _ _ _ us ws h1 h2 => match us, ws, h1, h2 with | [_], [], _, _ => by kernel_rfl⟩, fun h => nomatch h⟩
theorem sh_2 : ShpOk d_is_size_value ⟨"is_size_value", 1, [], [.inl 0], false⟩ := ⟨by kernel_rfl, .inl ⟨rfl, fun _ _ _ _ _ _ us ws h1 h2 => match us, ws, h1, h2 with | [_], [], _, _ => by kernel_rfl⟩, fun h => nomatch h⟩
theorem sh_3 : ShpOk d_is_list ⟨"is_list", 1, [], [.inl 0], false⟩ := ⟨by kernel_rfl, .inl ⟨rfl, fun _ _ _ _ _ _ us ws h1 h2 => match us, ws, h1, h2 with | [_], [], _, _ => by kernel_rfl⟩, fun h => nomatch h⟩
theorem sh_4 : ShpOk d_is_word_value ⟨"is_word_value", 2, [], [.inl 0, .inl 1], false⟩ := ⟨by kernel_rfl, .inl ⟨rfl, fun _ _ _ _ _ _ us ws h1 h2 => match us, ws, h1, h2 with | [_, _], [], _, _ => by kernel_rfl⟩, fun h => nomatch h⟩
theorem sh_5 : ShpOk d_are_words_value ⟨"are_words_value", 2, [], [.inl 0, .inl 1], false⟩ := ⟨by kernel_rfl, .inl ⟨rfl, fun _ _ _ _ _ _ us ws h1 h2 => match us, ws, h1, h2 with | [_, _], [], _, _ => by kernel_rfl⟩, fun h => nomatch h⟩
theorem sh_6 : ShpOk d_begins ⟨"begins", 2, [], [.inl 0, .inl 1], false⟩ := ⟨by kernel_rfl, .inl ⟨rfl, fun _ _ _ _ _ _ us ws h1 h2 => match us, ws, h1, h2 with | [_, _], [], _, _ => by kernel_rfl⟩, fun h => nomatch h⟩
theorem sh_7 : ShpOk d_times ⟨"times", 2, [], [.inl 0, .inl 1], false⟩ := ⟨by kernel_rfl, .inl ⟨rfl, fun _ _ _ _ _ _ us ws h1 h2 => match us, ws, h1, h2 with | [_, _], [], _, _ => by kernel_rfl⟩, fun h => nomatch h⟩
theorem sh_8 : ShpOk d_share_of ⟨"share_of", 2, [], [.inl 0, .inl 1], false⟩ := ⟨by kernel_rfl, .inl ⟨rfl, fun _ _ _ _ _ _ us ws h1 h2 => match us, ws, h1, h2 with | [_, _], [], _, _ => by kernel_rfl⟩, fun h => nomatch h⟩
theorem sh_9 : ShpOk d_choose ⟨"choose", 2, [], [.inl 0, .inl 1], false⟩ := ⟨by kernel_rfl, .inl ⟨rfl, fun _ _ _ _ _ _ us ws h1 h2 => match us, ws, h1, h2 with | [_, _], [], _, _ => by kernel_rfl⟩, fun h => nomatch h⟩
theorem sh_10 : ShpOk d_forests ⟨"forests", 3, [], [.inl 0, .inl 1, .inl 2], false⟩ := ⟨by kernel_rfl, .inl ⟨rfl, fun _ _ _ _ _ _ us ws h1 h2 => match us, ws, h1, h2 with | [_, _, _], [], _, _ => by kernel_rfl⟩, fun h => nomatch h⟩
theorem sh_11 : ShpOk d_split_of ⟨"split_of", 2, [], [.inl 0, .inl 1], false⟩ := ⟨by kernel_rfl, .inl ⟨rfl, fun _ _ _ _ _ _ us ws h1 h2 => match us, ws, h1, h2 with | [_, _], [], _, _ => by kernel_rfl⟩, fun h => nomatch h⟩
theorem sh_12 : ShpOk d_built ⟨"built", 3, [], [.inl 0, .inl 1, .inl 2], false⟩ := ⟨by kernel_rfl, .inl ⟨rfl, fun _ _ _ _ _ _ us ws h1 h2 => match us, ws, h1, h2 with | [_, _, _], [], _, _ => by kernel_rfl⟩, fun h => nomatch h⟩
theorem sh_13 : ShpOk d_want_size ⟨"want_size", 1, [], [.inl 0], false⟩ := ⟨by kernel_rfl, .inl ⟨rfl, fun _ _ _ _ _ _ us ws h1 h2 => match us, ws, h1, h2 with | [_], [], _, _ => by kernel_rfl⟩, fun h => nomatch h⟩
theorem sh_14 : ShpOk d_want_many ⟨"want_many", 2, [], [.inl 0, .inl 1, .inr (.int (0))], false⟩ := ⟨by kernel_rfl, .inr ⟨by simp [d_want_many, mkD], fun _ _ _ _ _ _ _ us ws its h1 h2 h3 => match us, ws, its, h1, h2, h3 with | [_, _], [], [_], _, _, _ => ⟨_, rfl, rfl⟩⟩, fun h => nomatch h⟩
theorem sh_15 : ShpOk d_is_cut_value ⟨"is_cut_value", 2, [], [.inl 0, .inl 1], false⟩ := ⟨by kernel_rfl, .inl ⟨rfl, fun _ _ _ _ _ _ us ws h1 h2 => match us, ws, h1, h2 with | [_, _], [], _, _ => by kernel_rfl⟩, fun h => nomatch h⟩
theorem sh_16 : ShpOk d_want_words ⟨"want_words", 2, [], [.inl 0, .inl 1], false⟩ := ⟨by kernel_rfl, .inl ⟨rfl, fun _ _ _ _ _ _ us ws h1 h2 => match us, ws, h1, h2 with | [_, _], [], _, _ => by kernel_rfl⟩, fun h => nomatch h⟩
theorem sh_17 : ShpOk d_want_at_most ⟨"want_at_most", 3, [], [.inl 0, .inl 1, .inl 2], false⟩ := ⟨by kernel_rfl, .inl ⟨rfl, fun _ _ _ _ _ _ us ws h1 h2 => match us, ws, h1, h2 with | [_, _, _], [], _, _ => by kernel_rfl⟩, fun h => nomatch h⟩
theorem sh_18 : ShpOk d_is_full_cut ⟨"is_full_cut", 2, [], [.inl 0, .inl 1], false⟩ := ⟨by kernel_rfl, .inl ⟨rfl, fun _ _ _ _ _ _ us ws h1 h2 => match us, ws, h1, h2 with | [_, _], [], _, _ => by kernel_rfl⟩, fun h => nomatch h⟩
theorem sh_19 : ShpOk d_want_splits ⟨"want_splits", 2, [], [.inl 0, .inl 1], false⟩ := ⟨by kernel_rfl, .inl ⟨rfl, fun _ _ _ _ _ _ us ws h1 h2 => match us, ws, h1, h2 with | [_, _], [], _, _ => by kernel_rfl⟩, fun h => nomatch h⟩
theorem sh_20 : ShpOk d_listed ⟨"listed", 2, [], [.inl 0, .inl 1], false⟩ := ⟨by kernel_rfl, .inl ⟨rfl, fun _ _ _ _ _ _ us ws h1 h2 => match us, ws, h1, h2 with | [_, _], [], _, _ => by kernel_rfl⟩, fun h => nomatch h⟩
theorem sh_21 : ShpOk d_want_full ⟨"want_full", 2, [], [.inl 0, .inl 1], false⟩ := ⟨by kernel_rfl, .inl ⟨rfl, fun _ _ _ _ _ _ us ws h1 h2 => match us, ws, h1, h2 with | [_, _], [], _, _ => by kernel_rfl⟩, fun h => nomatch h⟩
theorem sh_22 : ShpOk d_walked ⟨"walked", 2, [], [.inl 0, .inl 1], false⟩ := ⟨by kernel_rfl, .inl ⟨rfl, fun _ _ _ _ _ _ us ws h1 h2 => match us, ws, h1, h2 with | [_, _], [], _, _ => by kernel_rfl⟩, fun h => nomatch h⟩
theorem sh_23 : ShpOk d__law_draw ⟨"_law_draw", 2, [], [.inl 0, .inl 1], false⟩ := ⟨by kernel_rfl, .inl ⟨rfl, fun _ _ _ _ _ _ us ws h1 h2 => match us, ws, h1, h2 with | [_, _], [], _, _ => by kernel_rfl⟩, fun h => nomatch h⟩
theorem sh_24 : ShpOk d__law_split ⟨"_law_split", 3, [], [.inl 0, .inl 1, .inl 2], false⟩ := ⟨by kernel_rfl, .inl ⟨rfl, fun _ _ _ _ _ _ us ws h1 h2 => match us, ws, h1, h2 with | [_, _, _], [], _, _ => by kernel_rfl⟩, fun h => nomatch h⟩
theorem sh_25 : ShpOk d__law_all_cuts ⟨"_law_all_cuts", 2, [], [.inl 0, .inl 1], false⟩ := ⟨by kernel_rfl, .inl ⟨rfl, fun _ _ _ _ _ _ us ws h1 h2 => match us, ws, h1, h2 with | [_, _], [], _, _ => by kernel_rfl⟩, fun h => nomatch h⟩
theorem sh_26 : ShpOk d_all_cuts ⟨"all_cuts", 2, [], [.inl 0, .inl 1], false⟩ := ⟨by kernel_rfl, .inl ⟨rfl, fun _ _ _ _ _ _ us ws h1 h2 => match us, ws, h1, h2 with | [_, _], [], _, _ => by kernel_rfl⟩, fun h => nomatch h⟩
theorem sh_27 : ShpOk d__law_cut ⟨"_law_cut", 3, [], [.inl 0, .inl 1, .inl 2], false⟩ := ⟨by kernel_rfl, .inl ⟨rfl, fun _ _ _ _ _ _ us ws h1 h2 => match us, ws, h1, h2 with | [_, _, _], [], _, _ => by kernel_rfl⟩, fun h => nomatch h⟩
theorem sh_28 : ShpOk d_cut_position ⟨"cut_position", 2, [], [.inl 0, .inl 1], false⟩ := ⟨by kernel_rfl, .inl ⟨rfl, fun _ _ _ _ _ _ us ws h1 h2 => match us, ws, h1, h2 with | [_, _], [], _, _ => by kernel_rfl⟩, fun h => nomatch h⟩
theorem sh_29 : ShpOk d_cut_count ⟨"cut_count", 2, [], [.inl 0, .inl 1], false⟩ := ⟨by kernel_rfl, .inl ⟨rfl, fun _ _ _ _ _ _ us ws h1 h2 => match us, ws, h1, h2 with | [_, _], [], _, _ => by kernel_rfl⟩, fun h => nomatch h⟩
theorem sh_30 : ShpOk d_cut_position ⟨"cut_position", 0, ["cut", "size"], [.inl 1, .inl 0], false⟩ := ⟨by kernel_rfl, .inl ⟨rfl, fun _ _ _ _ _ _ us ws h1 h2 => match us, ws, h1, h2 with | [], [_, _], _, _ => by kernel_rfl⟩, fun h => nomatch h⟩
theorem sh_31 : ShpOk d_splits_of ⟨"splits_of", 2, [], [.inl 0, .inl 1], false⟩ := ⟨by kernel_rfl, .inl ⟨rfl, fun _ _ _ _ _ _ us ws h1 h2 => match us, ws, h1, h2 with | [_, _], [], _, _ => by kernel_rfl⟩, fun h => nomatch h⟩
theorem sh_32 : ShpOk d_splits_of ⟨"splits_of", 0, ["cut", "size"], [.inl 1, .inl 0], false⟩ := ⟨by kernel_rfl, .inl ⟨rfl, fun _ _ _ _ _ _ us ws h1 h2 => match us, ws, h1, h2 with | [], [_, _], _, _ => by kernel_rfl⟩, fun h => nomatch h⟩
theorem sh_33 : ShpOk d__law_words ⟨"_law_words", 2, [], [.inl 0, .inl 1], false⟩ := ⟨by kernel_rfl, .inl ⟨rfl, fun _ _ _ _ _ _ us ws h1 h2 => match us, ws, h1, h2 with | [_, _], [], _, _ => by kernel_rfl⟩, fun h => nomatch h⟩
theorem sh_34 : ShpOk d_all_cuts ⟨"all_cuts", 0, ["splits", "size"], [.inl 1, .inl 0], false⟩ := ⟨by kernel_rfl, .inl ⟨rfl, fun _ _ _ _ _ _ us ws h1 h2 => match us, ws, h1, h2 with | [], [_, _], _, _ => by kernel_rfl⟩, fun h => nomatch h⟩
theorem sh_35 : ShpOk d_cut_at ⟨"cut_at", 3, [], [.inl 0, .inl 1, .inl 2], false⟩ := ⟨by kernel_rfl, .inl ⟨rfl, fun _ _ _ _ _ _ us ws h1 h2 => match us, ws, h1, h2 with | [_, _, _], [], _, _ => by kernel_rfl⟩, fun h => nomatch h⟩
theorem sh_36 : ShpOk d_cut_at ⟨"cut_at", 0, ["position", "splits", "size"], [.inl 2, .inl 1, .inl 0], false⟩ := ⟨by kernel_rfl, .inl ⟨rfl, fun _ _ _ _ _ _ us ws h1 h2 => match us, ws, h1, h2 with | [], [_, _, _], _, _ => by kernel_rfl⟩, fun h => nomatch h⟩
theorem sh_37 : ShpOk d__law_right ⟨"_law_right", 1, [], [.inl 0], true⟩ := ⟨by kernel_rfl, .inl ⟨rfl, fun _ _ _ _ _ _ us ws h1 h2 => match us, ws, h1, h2 with | [_], [], _, _ => by kernel_rfl⟩, fun h => rfl⟩
theorem sh_38 : ShpOk d__law_pot ⟨"_law_pot", 2, [], [.inl 0, .inl 1], false⟩ := ⟨by kernel_rfl, .inl ⟨rfl, fun _ _ _ _ _ _ us ws h1 h2 => match us, ws, h1, h2 with | [_, _], [], _, _ => by kernel_rfl⟩, fun h => nomatch h⟩
theorem shS : ∀ s ∈ SH, ∃ d ∈ LD, s.f = d.x ∧ ShpOk d s := (allC ⟨d_is_integer, (.head _), rfl, sh_0⟩ (allC ⟨d_is_count, (.tail _ (.head _)), rfl, sh_1⟩ (allC ⟨d_is_size_value, (.tail _ (.tail _ (.tail _ (.tail _ (.tail _ (.head _)))))), rfl, sh_2⟩ (allC ⟨d_is_list, (.tail _ (.tail _ (.head _))), rfl, sh_3⟩ (allC ⟨d_is_word_value, (.tail _ (.tail _ (.tail _ (.tail _ (.tail _ (.tail _ (.tail _ (.head _)))))))), rfl, sh_4⟩ (allC ⟨d_are_words_value, (.tail _ (.tail _ (.tail _ (.tail _ (.tail _ (.tail _ (.tail _ (.tail _ (.head _))))))))), rfl, sh_5⟩ (allC ⟨d_begins, (.tail _ (.tail _ (.tail _ (.tail _ (.tail _ (.tail _ (.tail _ (.tail _ (.tail _ (.head _)))))))))), rfl, sh_6⟩ (allC ⟨d_times, (.tail _ (.tail _ (.tail _ (.tail _ (.tail _ (.tail _ (.tail _ (.tail _ (.tail _ (.tail _ (.tail _ (.head _)))))))))))), rfl, sh_7⟩ (allC ⟨d_share_of, (.tail _ (.tail _ (.tail _ (.tail _ (.tail _ (.tail _ (.tail _ (.tail _ (.tail _ (.tail _ (.tail _ (.tail _ (.tail _ (.head _)))))))))))))), rfl, sh_8⟩ (allC ⟨d_choose, (.tail _ (.tail _ (.tail _ (.tail _ (.tail _ (.tail _ (.tail _ (.tail _ (.tail _ (.tail _ (.tail _ (.tail _ (.tail _ (.tail _ (.tail _ (.head _)))))))))))))))), rfl, sh_9⟩ (allC ⟨d_forests, (.tail _ (.tail _ (.tail _ (.tail _ (.tail _ (.tail _ (.tail _ (.tail _ (.tail _ (.tail _ (.tail _ (.tail _ (.tail _ (.tail _ (.tail _ (.tail _ (.head _))))))))))))))))), rfl, sh_10⟩ (allC ⟨d_split_of, (.tail _ (.tail _ (.tail _ (.tail _ (.tail _ (.tail _ (.tail _ (.tail _ (.tail _ (.tail _ (.head _))))))))))), rfl, sh_11⟩ (allC ⟨d_built, (.tail _ (.tail _ (.tail _ (.tail _ (.tail _ (.tail _ (.tail _ (.tail _ (.tail _ (.tail _ (.tail _ (.tail _ (.tail _ (.tail _ (.tail _ (.tail _ (.tail _ (.tail _ (.head _))))))))))))))))))), rfl, sh_12⟩ (allC ⟨d_want_size, (.tail _ (.tail _ (.tail _ (.tail _ (.tail _ (.tail _ (.head _))))))), rfl, sh_13⟩ (allC ⟨d_want_many, (.tail _ (.tail _ (.tail _ (.head _)))), rfl, sh_14⟩ (allC ⟨d_is_cut_value, (.tail _ (.tail _ (.tail _ (.tail _ (.tail _ (.tail _ (.tail _ (.tail _ (.tail _ (.tail _ (.tail _ (.tail _ (.head _))))))))))))), rfl, sh_15⟩ (allC ⟨d_want_words, (.tail _ (.tail _ (.tail _ (.tail _ (.tail _ (.tail _ (.tail _ (.tail _ (.tail _ (.tail _ (.tail _ (.tail _ (.tail _ (.tail _ (.tail _ (.tail _ (.tail _ (.tail _ (.tail _ (.tail _ (.tail _ (.head _)))))))))))))))))))))), rfl, sh_16⟩ (allC ⟨d_want_at_most, (.tail _ (.tail _ (.tail _ (.tail _ (.head _))))), rfl, sh_17⟩ (allC ⟨d_is_full_cut, (.tail _ (.tail _ (.tail _ (.tail _ (.tail _ (.tail _ (.tail _ (.tail _ (.tail _ (.tail _ (.tail _ (.tail _ (.tail _ (.tail _ (.head _))))))))))))))), rfl, sh_18⟩ (allC ⟨d_want_splits, (.tail _ (.tail _ (.tail _ (.tail _ (.tail _ (.tail _ (.tail _ (.tail _ (.tail _ (.tail _ (.tail _ (.tail _ (.tail _ (.tail _ (.tail _ (.tail _ (.tail _ (.tail _ (.tail _ (.tail _ (.head _))))))))))))))))))))), rfl, sh_19⟩ (allC ⟨d_listed, (.tail _ (.tail _ (.tail _ (.tail _ (.tail _ (.tail _ (.tail _ (.tail _ (.tail _ (.tail _ (.tail _ (.tail _ (.tail _ (.tail _ (.tail _ (.tail _ (.tail _ (.tail _ (.tail _ (.head _)))))))))))))))))))), rfl, sh_20⟩ (allC ⟨d_want_full, (.tail _ (.tail _ (.tail _ (.tail _ (.tail _ (.tail _ (.tail _ (.tail _ (.tail _ (.tail _ (.tail _ (.tail _ (.tail _ (.tail _ (.tail _ (.tail _ (.tail _ (.tail _ (.tail _ (.tail _ (.tail _ (.tail _ (.head _))))))))))))))))))))))), rfl, sh_21⟩ (allC ⟨d_walked, (.tail _ (.tail _ (.tail _ (.tail _ (.tail _ (.tail _ (.tail _ (.tail _ (.tail _ (.tail _ (.tail _ (.tail _ (.tail _ (.tail _ (.tail _ (.tail _ (.tail _ (.head _)))))))))))))))))), rfl, sh_22⟩ (allC ⟨d__law_draw, (.tail _ (.tail _ (.tail _ (.tail _ (.tail _ (.tail _ (.tail _ (.tail _ (.tail _ (.tail _ (.tail _ (.tail _ (.tail _ (.tail _ (.tail _ (.tail _ (.tail _ (.tail _ (.tail _ (.tail _ (.tail _ (.tail _ (.tail _ (.tail _ (.tail _ (.tail _ (.tail _ (.tail _ (.tail _ (.head _)))))))))))))))))))))))))))))), rfl, sh_23⟩ (allC ⟨d__law_split, (.tail _ (.tail _ (.tail _ (.tail _ (.tail _ (.tail _ (.tail _ (.tail _ (.tail _ (.tail _ (.tail _ (.tail _ (.tail _ (.tail _ (.tail _ (.tail _ (.tail _ (.tail _ (.tail _ (.tail _ (.tail _ (.tail _ (.tail _ (.tail _ (.tail _ (.tail _ (.tail _ (.tail _ (.tail _ (.tail _ (.tail _ (.tail _ (.head _))))))))))))))))))))))))))))))))), rfl, sh_24⟩ (allC ⟨d__law_all_cuts, (.tail _ (.tail _ (.tail _ (.tail _ (.tail _ (.tail _ (.tail _ (.tail _ (.tail _ (.tail _ (.tail _ (.tail _ (.tail _ (.tail _ (.tail _ (.tail _ (.tail _ (.tail _ (.tail _ (.tail _ (.tail _ (.tail _ (.tail _ (.tail _ (.tail _ (.tail _ (.tail _ (.tail _ (.tail _ (.tail _ (.tail _ (.tail _ (.tail _ (.tail _ (.head _))))))))))))))))))))))))))))))))))), rfl, sh_25⟩ (allC ⟨d_all_cuts, (.tail _ (.tail _ (.tail _ (.tail _ (.tail _ (.tail _ (.tail _ (.tail _ (.tail _ (.tail _ (.tail _ (.tail _ (.tail _ (.tail _ (.tail _ (.tail _ (.tail _ (.tail _ (.tail _ (.tail _ (.tail _ (.tail _ (.tail _ (.tail _ (.head _))))))))))))))))))))))))), rfl, sh_26⟩ (allC ⟨d__law_cut, (.tail _ (.tail _ (.tail _ (.tail _ (.tail _ (.tail _ (.tail _ (.tail _ (.tail _ (.tail _ (.tail _ (.tail _ (.tail _ (.tail _ (.tail _ (.tail _ (.tail _ (.tail _ (.tail _ (.tail _ (.tail _ (.tail _ (.tail _ (.tail _ (.tail _ (.tail _ (.tail _ (.tail _ (.tail _ (.tail _ (.tail _ (.tail _ (.tail _ (.head _)))))))))))))))))))))))))))))))))), rfl, sh_27⟩ (allC ⟨d_cut_position, (.tail _ (.tail _ (.tail _ (.tail _ (.tail _ (.tail _ (.tail _ (.tail _ (.tail _ (.tail _ (.tail _ (.tail _ (.tail _ (.tail _ (.tail _ (.tail _ (.tail _ (.tail _ (.tail _ (.tail _ (.tail _ (.tail _ (.tail _ (.tail _ (.tail _ (.tail _ (.head _))))))))))))))))))))))))))), rfl, sh_28⟩ (allC ⟨d_cut_count, (.tail _ (.tail _ (.tail _ (.tail _ (.tail _ (.tail _ (.tail _ (.tail _ (.tail _ (.tail _ (.tail _ (.tail _ (.tail _ (.tail _ (.tail _ (.tail _ (.tail _ (.tail _ (.tail _ (.tail _ (.tail _ (.tail _ (.tail _ (.head _)))))))))))))))))))))))), rfl, sh_29⟩ (allC ⟨d_cut_position, (.tail _ (.tail _ (.tail _ (.tail _ (.tail _ (.tail _ (.tail _ (.tail _ (.tail _ (.tail _ (.tail _ (.tail _ (.tail _ (.tail _ (.tail _ (.tail _ (.tail _ (.tail _ (.tail _ (.tail _ (.tail _ (.tail _ (.tail _ (.tail _ (.tail _ (.tail _ (.head _))))))))))))))))))))))))))), rfl, sh_30⟩ (allC ⟨d_splits_of, (.tail _ (.tail _ (.tail _ (.tail _ (.tail _ (.tail _ (.tail _ (.tail _ (.tail _ (.tail _ (.tail _ (.tail _ (.tail _ (.tail _ (.tail _ (.tail _ (.tail _ (.tail _ (.tail _ (.tail _ (.tail _ (.tail _ (.tail _ (.tail _ (.tail _ (.head _)))))))))))))))))))))))))), rfl, sh_31⟩ (allC ⟨d_splits_of, (.tail _ (.tail _ (.tail _ (.tail _ (.tail _ (.tail _ (.tail _ (.tail _ (.tail _ (.tail _ (.tail _ (.tail _ (.tail _ (.tail _ (.tail _ (.tail _ (.tail _ (.tail _ (.tail _ (.tail _ (.tail _ (.tail _ (.tail _ (.tail _ (.tail _ (.head _)))))))))))))))))))))))))), rfl, sh_32⟩ (allC ⟨d__law_words, (.tail _ (.tail _ (.tail _ (.tail _ (.tail _ (.tail _ (.tail _ (.tail _ (.tail _ (.tail _ (.tail _ (.tail _ (.tail _ (.tail _ (.tail _ (.tail _ (.tail _ (.tail _ (.tail _ (.tail _ (.tail _ (.tail _ (.tail _ (.tail _ (.tail _ (.tail _ (.tail _ (.tail _ (.tail _ (.tail _ (.tail _ (.head _)))))))))))))))))))))))))))))))), rfl, sh_33⟩ (allC ⟨d_all_cuts, (.tail _ (.tail _ (.tail _ (.tail _ (.tail _ (.tail _ (.tail _ (.tail _ (.tail _ (.tail _ (.tail _ (.tail _ (.tail _ (.tail _ (.tail _ (.tail _ (.tail _ (.tail _ (.tail _ (.tail _ (.tail _ (.tail _ (.tail _ (.tail _ (.head _))))))))))))))))))))))))), rfl, sh_34⟩ (allC ⟨d_cut_at, (.tail _ (.tail _ (.tail _ (.tail _ (.tail _ (.tail _ (.tail _ (.tail _ (.tail _ (.tail _ (.tail _ (.tail _ (.tail _ (.tail _ (.tail _ (.tail _ (.tail _ (.tail _ (.tail _ (.tail _ (.tail _ (.tail _ (.tail _ (.tail _ (.tail _ (.tail _ (.tail _ (.head _)))))))))))))))))))))))))))), rfl, sh_35⟩ (allC ⟨d_cut_at, (.tail _ (.tail _ (.tail _ (.tail _ (.tail _ (.tail _ (.tail _ (.tail _ (.tail _ (.tail _ (.tail _ (.tail _ (.tail _ (.tail _ (.tail _ (.tail _ (.tail _ (.tail _ (.tail _ (.tail _ (.tail _ (.tail _ (.tail _ (.tail _ (.tail _ (.tail _ (.tail _ (.head _)))))))))))))))))))))))))))), rfl, sh_36⟩ (allC ⟨d__law_right, (.tail _ (.tail _ (.tail _ (.tail _ (.tail _ (.tail _ (.tail _ (.tail _ (.tail _ (.tail _ (.tail _ (.tail _ (.tail _ (.tail _ (.tail _ (.tail _ (.tail _ (.tail _ (.tail _ (.tail _ (.tail _ (.tail _ (.tail _ (.tail _ (.tail _ (.tail _ (.tail _ (.tail _ (.tail _ (.tail _ (.tail _ (.tail _ (.tail _ (.tail _ (.tail _ (.head _)))))))))))))))))))))))))))))))))))), rfl, sh_37⟩ (allC ⟨d__law_pot, (.tail _ (.tail _ (.tail _ (.tail _ (.tail _ (.tail _ (.tail _ (.tail _ (.tail _ (.tail _ (.tail _ (.tail _ (.tail _ (.tail _ (.tail _ (.tail _ (.tail _ (.tail _ (.tail _ (.tail _ (.tail _ (.tail _ (.tail _ (.tail _ (.tail _ (.tail _ (.tail _ (.tail _ (.head _))))))))))))))))))))))))))))), rfl, sh_38⟩ allN)))))))))))))))))))))))))))))))))))))))
theorem shA : ∀ d ∈ LD, ∀ s ∈ d.T.shapes, ∃ d' ∈ LD, s.f = d'.x ∧ ShpOk d' s := fun d hd s hs => shS s (by rw [(shL d hd).1] at hs; exact hs)
end G92
set_option linter.all false
set_option autoImplicit false
set_option Elab.async false
set_option maxRecDepth 100000
set_option maxHeartbeats 1000000
namespace G92
open PySem (Str)
open Z
/-! counts, the law's draws: what the defs answer -/
section
variable {W n : Nat}
theorem is_integer_eq {i : Int} : callF W Γ (n + 1) "is_integer" [.int i] = some (.val (.bl true), none) := by
  rw [callF_go g_is_integer rfl]; simp [b_is_integer, entry, svs, ev.eq_1, ev.eq_2, ev.eq_3, ev.eq_4, ev.eq_5, ev.eq_6, ev.eq_7, ev.eq_8, ev.eq_9, ev.eq_10, ev.eq_11, ev.eq_12, ev.eq_13, ev.eq_14, ev.eq_15, ev.eq_16, ev.eq_17, ev.eq_18, ev.eq_19, ev.eq_20, ev.eq_21, ev.eq_22, ev.eq_23, ev.eq_24, ev.eq_25, ev.eq_26, sv.eq_1, sv.eq_2, sv.eq_3, sv.eq_4, sv.eq_5, sv.eq_6, sv.eq_7, sv.eq_10, sv.eq_11, sv.eq_12, sv.eq_13, sv_for, sv_whl, ev_comp, evs, evp, evo, tv, itv_rng1, itv_rng2, itv_seq, itv_enum, items, callWith, arrange, rds, rd, after, stls, stl, immR, lite, D.imm, isTy, truth, leave, retv, keep, cop_lt, cop_gt, cop_le, cop_ge, cop_eq, cop_ne, bop_add, bop_sub]
theorem is_count_eq {i : Int} : callF W Γ (n + 2) "is_count" [.int i] = some (.val (.bl (decide (0 ≤ i))), none) := by
  rw [callF_go g_is_count rfl]; simp [b_is_count, is_integer_eq, entry, svs, ev.eq_1, ev.eq_2, ev.eq_3, ev.eq_4, ev.eq_5, ev.eq_6, ev.eq_7, ev.eq_8, ev.eq_9, ev.eq_10, ev.eq_11, ev.eq_12, ev.eq_13, ev.eq_14, ev.eq_15, ev.eq_16, ev.eq_17, ev.eq_18, ev.eq_19, ev.eq_20, ev.eq_21, ev.eq_22, ev.eq_23, ev.eq_24, ev.eq_25, ev.eq_26, sv.eq_1, sv.eq_2, sv.eq_3, sv.eq_4, sv.eq_5, sv.eq_6, sv.eq_7, sv.eq_10, sv.eq_11, sv.eq_12, sv.eq_13, sv_for, sv_whl, ev_comp, evs, evp, evo, tv, itv_rng1, itv_rng2, itv_seq, itv_enum, items, callWith, arrange, rds, rd, after, stls, stl, immR, lite, D.imm, isTy, truth, leave, retv, keep, cop_lt, cop_gt, cop_le, cop_ge, cop_eq, cop_ne, bop_add, bop_sub]
theorem want_many_eq {i most least : Int} (h0 : 0 ≤ i) (h1 : least ≤ i) (h2 : i ≤ most) : callF W Γ (n + 3) "want_many" [.int i, .int most, .int least] = some (.val .non, none) := by
  rw [callF_go g_want_many rfl]; simp [b_want_many, is_count_eq, h0, h1, h2, entry, svs, ev.eq_1, ev.eq_2, ev.eq_3, ev.eq_4, ev.eq_5, ev.eq_6, ev.eq_7, ev.eq_8, ev.eq_9, ev.eq_10, ev.eq_11, ev.eq_12, ev.eq_13, ev.eq_14, ev.eq_15, ev.eq_16, ev.eq_17, ev.eq_18, ev.eq_19, ev.eq_20, ev.eq_21, ev.eq_22, ev.eq_23, ev.eq_24, ev.eq_25, ev.eq_26, sv.eq_1, sv.eq_2, sv.eq_3, sv.eq_4, sv.eq_5, sv.eq_6, sv.eq_7, sv.eq_10, sv.eq_11, sv.eq_12, sv.eq_13, sv_for, sv_whl, ev_comp, evs, evp, evo, tv, itv_rng1, itv_rng2, itv_seq, itv_enum, items, callWith, arrange, rds, rd, after, stls, stl, immR, lite, D.imm, isTy, truth, leave, retv, keep, cop_lt, cop_gt, cop_le, cop_ge, cop_eq, cop_ne, bop_add, bop_sub]
theorem is_size_value_eq {i : Int} : callF W Γ (n + 2) "is_size_value" [.int i] = some (.val (.bl (decide (2 ≤ i) && decide (i ≤ 4))), none) := by
  rw [callF_go g_is_size_value rfl]
  by_cases h : 2 ≤ i <;> simp [b_is_size_value, is_integer_eq, h, entry, svs, ev.eq_1, ev.eq_2, ev.eq_3, ev.eq_4, ev.eq_5, ev.eq_6, ev.eq_7, ev.eq_8, ev.eq_9, ev.eq_10, ev.eq_11, ev.eq_12, ev.eq_13, ev.eq_14, ev.eq_15, ev.eq_16, ev.eq_17, ev.eq_18, ev.eq_19, ev.eq_20, ev.eq_21, ev.eq_22, ev.eq_23, ev.eq_24, ev.eq_25, ev.eq_26, sv.eq_1, sv.eq_2, sv.eq_3, sv.eq_4, sv.eq_5, sv.eq_6, sv.eq_7, sv.eq_10, sv.eq_11, sv.eq_12, sv.eq_13, sv_for, sv_whl, ev_comp, evs, evp, evo, tv, itv_rng1, itv_rng2, itv_seq, itv_enum, items, callWith, arrange, rds, rd, after, stls, stl, immR, lite, D.imm, isTy, truth, leave, retv, keep, cop_lt, cop_gt, cop_le, cop_ge, cop_eq, cop_ne, bop_add, bop_sub]
theorem want_size_eq {s : Nat} (h0 : 2 ≤ s) (h1 : s ≤ 4) : callF W Γ (n + 3) "want_size" [.int s] = some (.val .non, none) := by
  have k0 : (2 : Int) ≤ s := by omega
  have k1 : (s : Int) ≤ 4 := by omega
  rw [callF_go g_want_size rfl]; simp [b_want_size, is_size_value_eq, k0, k1, entry, svs, ev.eq_1, ev.eq_2, ev.eq_3, ev.eq_4, ev.eq_5, ev.eq_6, ev.eq_7, ev.eq_8, ev.eq_9, ev.eq_10, ev.eq_11, ev.eq_12, ev.eq_13, ev.eq_14, ev.eq_15, ev.eq_16, ev.eq_17, ev.eq_18, ev.eq_19, ev.eq_20, ev.eq_21, ev.eq_22, ev.eq_23, ev.eq_24, ev.eq_25, ev.eq_26, sv.eq_1, sv.eq_2, sv.eq_3, sv.eq_4, sv.eq_5, sv.eq_6, sv.eq_7, sv.eq_10, sv.eq_11, sv.eq_12, sv.eq_13, sv_for, sv_whl, ev_comp, evs, evp, evo, tv, itv_rng1, itv_rng2, itv_seq, itv_enum, items, callWith, arrange, rds, rd, after, stls, stl, immR, lite, D.imm, isTy, truth, leave, retv, keep, cop_lt, cop_gt, cop_le, cop_ge, cop_eq, cop_ne, bop_add, bop_sub]
theorem want_splits_eq {s k : Nat} (h0 : 2 ≤ s) (h1 : s ≤ 4) (h3 : k ≤ 40) : callF W Γ (n + 4) "want_splits" [.int s, .int k] = some (.val .non, none) := by
  have k0 : (0 : Int) ≤ k := by omega
  have k1 : (k : Int) ≤ 40 := by omega
  rw [callF_go g_want_splits rfl]; simp [b_want_splits, want_size_eq h0 h1, want_many_eq k0 k0 k1, entry, svs, ev.eq_1, ev.eq_2, ev.eq_3, ev.eq_4, ev.eq_5, ev.eq_6, ev.eq_7, ev.eq_8, ev.eq_9, ev.eq_10, ev.eq_11, ev.eq_12, ev.eq_13, ev.eq_14, ev.eq_15, ev.eq_16, ev.eq_17, ev.eq_18, ev.eq_19, ev.eq_20, ev.eq_21, ev.eq_22, ev.eq_23, ev.eq_24, ev.eq_25, ev.eq_26, sv.eq_1, sv.eq_2, sv.eq_3, sv.eq_4, sv.eq_5, sv.eq_6, sv.eq_7, sv.eq_10, sv.eq_11, sv.eq_12, sv.eq_13, sv_for, sv_whl, ev_comp, evs, evp, evo, tv, itv_rng1, itv_rng2, itv_seq, itv_enum, items, callWith, arrange, rds, rd, after, stls, stl, immR, lite, D.imm, isTy, truth, leave, retv, keep, cop_lt, cop_gt, cop_le, cop_ge, cop_eq, cop_ne, bop_add, bop_sub]
theorem choose_eq {top : Int} {m : Nat} (ht : top.natAbs < 4294967296) (hm : m < 1000000) : callF W Γ (n + 1) "choose" [.int top, .int m] = some (.val (.int (ch top m)), none) := by
  have c1 : InR (m : Int) := inR (by omega) (by omega)
  rw [callF_go g_choose rfl]
  simp [b_choose, c1, entry, svs, ev.eq_1, ev.eq_2, ev.eq_3, ev.eq_4, ev.eq_5, ev.eq_6, ev.eq_7, ev.eq_8, ev.eq_9, ev.eq_10, ev.eq_11, ev.eq_12, ev.eq_13, ev.eq_14, ev.eq_15, ev.eq_16, ev.eq_17, ev.eq_18, ev.eq_19, ev.eq_20, ev.eq_21, ev.eq_22, ev.eq_23, ev.eq_24, ev.eq_25, ev.eq_26, sv.eq_1, sv.eq_2, sv.eq_3, sv.eq_4, sv.eq_5, sv.eq_6, sv.eq_7, sv.eq_10, sv.eq_11, sv.eq_12, sv.eq_13, sv_for, sv_whl, ev_comp, evs, evp, evo, tv, itv_rng1, itv_rng2, itv_seq, itv_enum, items, callWith, arrange, rds, rd, after, stls, stl, immR, lite, D.imm, isTy, truth, leave, retv, keep, cop_lt, cop_gt, cop_le, cop_ge, cop_eq, cop_ne, bop_add, bop_sub]
  obtain ⟨ρF, e, x, rfl⟩ := forF_rng (lo := 0) (n := m) (g := Lg ⟨callF W Γ n, W⟩ (.nm 3)) (b := Lb ⟨callF W Γ n, W⟩ q_choose_1)
    (ρ0 := [.val (.int top), .val (.int m), .val (.int 1), .no]) (fun i ρ => ∃ x, ρ = [.val (.int top), .val (.int m), .val (.int (ch top i)), x]) ⟨_, rfl⟩ fun i ρ hi ⟨x, e⟩ => by
      subst e
      have c1 : (top - (i : Int)).natAbs < 18446744073709551616 := by omega
      have c2 : ((i : Int) + 1).natAbs < 18446744073709551616 := by omega
      have c3 : (0 : Int) < (i : Int) + 1 := by omega
      simp [q_choose_1, bop_mulR c1, bop_div c3 c2, ch, entry, svs, ev.eq_1, ev.eq_2, ev.eq_3, ev.eq_4, ev.eq_5, ev.eq_6, ev.eq_7, ev.eq_8, ev.eq_9, ev.eq_10, ev.eq_11, ev.eq_12, ev.eq_13, ev.eq_14, ev.eq_15, ev.eq_16, ev.eq_17, ev.eq_18, ev.eq_19, ev.eq_20, ev.eq_21, ev.eq_22, ev.eq_23, ev.eq_24, ev.eq_25, ev.eq_26, sv.eq_1, sv.eq_2, sv.eq_3, sv.eq_4, sv.eq_5, sv.eq_6, sv.eq_7, sv.eq_10, sv.eq_11, sv.eq_12, sv.eq_13, sv_for, sv_whl, ev_comp, evs, evp, evo, tv, itv_rng1, itv_rng2, itv_seq, itv_enum, items, callWith, arrange, rds, rd, after, stls, stl, immR, lite, D.imm, isTy, truth, leave, retv, keep, cop_lt, cop_gt, cop_le, cop_ge, cop_eq, cop_ne, bop_add, bop_sub, Lb, Lg, Lt, Lts, Le, gv, gvs, tvs, wipeE]
  simp [e]
theorem forests_eq {s m k : Nat} (hs : s ≤ 4) (hm : m ≤ 1000) (hk : k ≤ 1000) (h : k = 0 ∨ 0 < s * k + m) : callF W Γ (n + 2) "forests" [.int s, .int m, .int k] = some (.val (.int (FN s m k : Nat)), none) := by
  have q0 : s * k ≤ 4000 := Nat.mul_le_mul hs hk
  have q1 : (s : Int) * k = ((s * k : Nat) : Int) := by rw [Int.natCast_mul]
  have a1 : (s : Int).natAbs < 18446744073709551616 := by omega
  have a2 : (m : Int).natAbs < 18446744073709551616 := by omega
  rw [callF_go g_forests rfl]
  by_cases hz : k = 0
  · subst hz
    simp [b_forests, FN, entry, svs, ev.eq_1, ev.eq_2, ev.eq_3, ev.eq_4, ev.eq_5, ev.eq_6, ev.eq_7, ev.eq_8, ev.eq_9, ev.eq_10, ev.eq_11, ev.eq_12, ev.eq_13, ev.eq_14, ev.eq_15, ev.eq_16, ev.eq_17, ev.eq_18, ev.eq_19, ev.eq_20, ev.eq_21, ev.eq_22, ev.eq_23, ev.eq_24, ev.eq_25, ev.eq_26, sv.eq_1, sv.eq_2, sv.eq_3, sv.eq_4, sv.eq_5, sv.eq_6, sv.eq_7, sv.eq_10, sv.eq_11, sv.eq_12, sv.eq_13, sv_for, sv_whl, ev_comp, evs, evp, evo, tv, itv_rng1, itv_rng2, itv_seq, itv_enum, items, callWith, arrange, rds, rd, after, stls, stl, immR, lite, D.imm, isTy, truth, leave, retv, keep, cop_lt, cop_gt, cop_le, cop_ge, cop_eq, cop_ne, bop_add, bop_sub]
  · have hp : 0 < s * k + m := by rcases h with h | h; exact absurd h hz; exact h
    have a3 : ((s : Int) * k + m).natAbs < 18446744073709551616 := by omega
    have a4 : ((s : Int) * k + m).natAbs < 4294967296 := by omega
    have a5 : ((k : Int) = 0) ↔ k = 0 := by omega
    have a6 : (0 : Int) < (s : Int) * k + m := by omega
    have a7 : ch ((s : Int) * k + m) k = (bin (s * k + m) k : Nat) := by rw [q1, ← Int.natCast_add, ch_bin]
    have a8 : ((m : Int) * (bin (s * k + m) k : Nat)).fdiv ((s : Int) * k + m) = ((FN s m k : Nat) : Int) := by
      rw [Int.fdiv_eq_ediv_of_nonneg _ (by omega), q1, ← Int.natCast_add, ← Int.natCast_mul, ← Int.natCast_ediv]
      unfold FN
      rw [if_neg hz]
    simp [b_forests, hz, a5, choose_eq (W := W) (n := n) (m := k) a4 (by omega), bop_mulL a1, bop_mulL a2, bop_div a6 a3, a7, a8, entry, svs, ev.eq_1, ev.eq_2, ev.eq_3, ev.eq_4, ev.eq_5, ev.eq_6, ev.eq_7, ev.eq_8, ev.eq_9, ev.eq_10, ev.eq_11, ev.eq_12, ev.eq_13, ev.eq_14, ev.eq_15, ev.eq_16, ev.eq_17, ev.eq_18, ev.eq_19, ev.eq_20, ev.eq_21, ev.eq_22, ev.eq_23, ev.eq_24, ev.eq_25, ev.eq_26, sv.eq_1, sv.eq_2, sv.eq_3, sv.eq_4, sv.eq_5, sv.eq_6, sv.eq_7, sv.eq_10, sv.eq_11, sv.eq_12, sv.eq_13, sv_for, sv_whl, ev_comp, evs, evp, evo, tv, itv_rng1, itv_rng2, itv_seq, itv_enum, items, callWith, arrange, rds, rd, after, stls, stl, immR, lite, D.imm, isTy, truth, leave, retv, keep, cop_lt, cop_gt, cop_le, cop_ge, cop_eq, cop_ne, bop_add, bop_sub]
/-- a draw: some digit -/
theorem draw_eq {p q many : Int} (h : 0 < many) (h2 : many < 1000000000000000000000000000000) : ∃ d p' q' : Int, 0 ≤ d ∧ d < many ∧ callF W Γ (n + 1) "_law_draw" [.lst [.int p, .int q], .int many] = some (.val (.int d), some (.lst [.int p', .int q'])) := by
  have a1 : many.natAbs < DW := by
    have h3 : (1000000000000000000000000000000 : Nat) ≤ DW := Nat.le_trans (by decide : 1000000000000000000000000000000 ≤ 2 ^ 100) (Nat.pow_le_pow_right (by decide) (by decide))
    omega
  by_cases hp : 0 < p
  · refine ⟨p.fmod many, p.fdiv many, q, Int.fmod_nonneg_of_pos _ h, Int.fmod_lt_of_pos _ h, ?_⟩
    rw [callF_go g__law_draw rfl]
    simp [b__law_draw, hp, Sl.cell, Sl.to, sub, place, bfv_divmodW h a1, gv, gvs, putv, entry, svs, ev.eq_1, ev.eq_2, ev.eq_3, ev.eq_4, ev.eq_5, ev.eq_6, ev.eq_7, ev.eq_8, ev.eq_9, ev.eq_10, ev.eq_11, ev.eq_12, ev.eq_13, ev.eq_14, ev.eq_15, ev.eq_16, ev.eq_17, ev.eq_18, ev.eq_19, ev.eq_20, ev.eq_21, ev.eq_22, ev.eq_23, ev.eq_24, ev.eq_25, ev.eq_26, sv.eq_1, sv.eq_2, sv.eq_3, sv.eq_4, sv.eq_5, sv.eq_6, sv.eq_7, sv.eq_10, sv.eq_11, sv.eq_12, sv.eq_13, sv_for, sv_whl, ev_comp, evs, evp, evo, tv, itv_rng1, itv_rng2, itv_seq, itv_enum, items, callWith, arrange, rds, rd, after, stls, stl, immR, lite, D.imm, isTy, truth, leave, retv, keep, cop_lt, cop_gt, cop_le, cop_ge, cop_eq, cop_ne, bop_add, bop_sub]
  · refine ⟨((((q * 38821 + 6613).fmod 2147483587 * (q * 38821 + 6613).fmod 2147483587).fmod 2147483549).fdiv 33).fmod many, p, (q * 38821 + 6613).fmod 2147483587, Int.fmod_nonneg_of_pos _ h, Int.fmod_lt_of_pos _ h, ?_⟩
    rw [callF_go g__law_draw rfl]
    have c1 : ((q * 38821 + 6613).fmod 2147483587).natAbs < 18446744073709551616 := by
      have := Int.fmod_nonneg_of_pos (q * 38821 + 6613) (show (0 : Int) < 2147483587 by decide)
      have := Int.fmod_lt_of_pos (q * 38821 + 6613) (show (0 : Int) < 2147483587 by decide)
      omega
    have c2 : (38821 : Int).natAbs < 18446744073709551616 := by decide
    have c3 : (33 : Int).natAbs < 18446744073709551616 := by decide
    simp [b__law_draw, hp, Sl.cell, Sl.to, sub, place, gv, gvs, putv, bfv, bop_mulR c1, bop_mulR c2, bop_mod h, bop_mod (show (0 : Int) < 2147483587 by decide), bop_mod (show (0 : Int) < 2147483549 by decide), bop_div (show (0 : Int) < 33 by decide) c3, entry, svs, ev.eq_1, ev.eq_2, ev.eq_3, ev.eq_4, ev.eq_5, ev.eq_6, ev.eq_7, ev.eq_8, ev.eq_9, ev.eq_10, ev.eq_11, ev.eq_12, ev.eq_13, ev.eq_14, ev.eq_15, ev.eq_16, ev.eq_17, ev.eq_18, ev.eq_19, ev.eq_20, ev.eq_21, ev.eq_22, ev.eq_23, ev.eq_24, ev.eq_25, ev.eq_26, sv.eq_1, sv.eq_2, sv.eq_3, sv.eq_4, sv.eq_5, sv.eq_6, sv.eq_7, sv.eq_10, sv.eq_11, sv.eq_12, sv.eq_13, sv_for, sv_whl, ev_comp, evs, evp, evo, tv, itv_rng1, itv_rng2, itv_seq, itv_enum, items, callWith, arrange, rds, rd, after, stls, stl, immR, lite, D.imm, isTy, truth, leave, retv, keep, cop_lt, cop_gt, cop_le, cop_ge, cop_eq, cop_ne, bop_add, bop_sub]
/-- the same with a natural digit -/
theorem drawN {p q : Int} {many : Nat} (h : 0 < many) (h2 : many < 1000000) : ∃ d : Nat, ∃ p' q' : Int, d < many ∧ callF W Γ (n + 1) "_law_draw" [.lst [.int p, .int q], .int many] = some (.val (.int d), some (.lst [.int p', .int q'])) := by
  obtain ⟨d, p', q', h1, h3, e⟩ := draw_eq (W := W) (n := n) (p := p) (q := q) (many := many) (by omega) (by omega)
  exact ⟨d.toNat, p', q', by omega, by rw [Int.toNat_of_nonneg h1]; exact e⟩
theorem pick_eq {p q : Int} {xs : List D} (h : 0 < xs.length) (h2 : xs.length < 1000000) : ∃ y ∈ xs, ∃ p' q' : Int, callF W Γ (n + 2) "_law_pick" [.lst [.int p, .int q], .lst xs] = some (.val y, some (.lst [.int p', .int q'])) := by
  obtain ⟨d, p', q', d1, e⟩ := drawN (W := W) (n := n) (p := p) (q := q) (many := xs.length) h h2
  have e5 : sub (.lst xs) (.int d) = some xs[d] := sub_lst d1
  refine ⟨xs[d], List.getElem_mem d1, p', q', ?_⟩
  rw [callF_go g__law_pick rfl]
  simp [b__law_pick, bfv, e, e5, Sl.cell, Sl.to, entry, svs, ev.eq_1, ev.eq_2, ev.eq_3, ev.eq_4, ev.eq_5, ev.eq_6, ev.eq_7, ev.eq_8, ev.eq_9, ev.eq_10, ev.eq_11, ev.eq_12, ev.eq_13, ev.eq_14, ev.eq_15, ev.eq_16, ev.eq_17, ev.eq_18, ev.eq_19, ev.eq_20, ev.eq_21, ev.eq_22, ev.eq_23, ev.eq_24, ev.eq_25, ev.eq_26, sv.eq_1, sv.eq_2, sv.eq_3, sv.eq_4, sv.eq_5, sv.eq_6, sv.eq_7, sv.eq_10, sv.eq_11, sv.eq_12, sv.eq_13, sv_for, sv_whl, ev_comp, evs, evp, evo, tv, itv_rng1, itv_rng2, itv_seq, itv_enum, items, callWith, arrange, rds, rd, after, stls, stl, immR, lite, D.imm, isTy, truth, leave, retv, keep, cop_lt, cop_gt, cop_le, cop_ge, cop_eq, cop_ne, bop_add, bop_sub]
theorem pot_eq {ns : List Int} {k : Nat} (hk : k < 1000) : ∃ p q : Int, callF W Γ (n + 1) "_law_pot" [.scr ns, .int k] = some (.new (.lst [.int p, .int q]), none) := by
  have c1 : (k : Int).natAbs < 18446744073709551616 := by omega
  have c2 : (45007 : Int).natAbs < 18446744073709551616 := by decide
  have c3 : (4733 : Int).natAbs < 18446744073709551616 := by decide
  have c4 : (6797 : Int).natAbs < 18446744073709551616 := by decide
  have m1 : (0 : Int) < 2147483549 := by decide
  have m2 : (0 : Int) < 2147483563 := by decide
  by_cases hl : k < ns.length
  · have hl' : (k : Int) < ns.length := by omega
    refine ⟨if (ns[k].natAbs : Int) - 1000000000000000000 > 0 then (ns[k].natAbs : Int) - 1000000000000000000 else 0, ((ns[k].natAbs : Int).fmod 2147483549 * 45007 + 6797 * k + 711).fmod 2147483563 + 1, ?_⟩
    rw [callF_go g__law_pot rfl]
    simp only [b__law_pot]
    rw [svs_cons (ρ1 := [.val (.scr ns), .val (.int k), .val (.int (ns[k].natAbs : Int))]) (by simp [bfv, sub, place, hl, hl', entry, svs, ev.eq_1, ev.eq_2, ev.eq_3, ev.eq_4, ev.eq_5, ev.eq_6, ev.eq_7, ev.eq_8, ev.eq_9, ev.eq_10, ev.eq_11, ev.eq_12, ev.eq_13, ev.eq_14, ev.eq_15, ev.eq_16, ev.eq_17, ev.eq_18, ev.eq_19, ev.eq_20, ev.eq_21, ev.eq_22, ev.eq_23, ev.eq_24, ev.eq_25, ev.eq_26, sv.eq_1, sv.eq_2, sv.eq_3, sv.eq_4, sv.eq_5, sv.eq_6, sv.eq_7, sv.eq_10, sv.eq_11, sv.eq_12, sv.eq_13, sv_for, sv_whl, ev_comp, evs, evp, evo, tv, itv_rng1, itv_rng2, itv_seq, itv_enum, items, callWith, arrange, rds, rd, after, stls, stl, immR, lite, D.imm, isTy, truth, leave, retv, keep, cop_lt, cop_gt, cop_le, cop_ge, cop_eq, cop_ne, bop_add, bop_sub])]
    simp [bfv, pow_1018, bop_mulR c2, bop_mulL c4, bop_mod m1, bop_mod m2, entry, svs, ev.eq_1, ev.eq_2, ev.eq_3, ev.eq_4, ev.eq_5, ev.eq_6, ev.eq_7, ev.eq_8, ev.eq_9, ev.eq_10, ev.eq_11, ev.eq_12, ev.eq_13, ev.eq_14, ev.eq_15, ev.eq_16, ev.eq_17, ev.eq_18, ev.eq_19, ev.eq_20, ev.eq_21, ev.eq_22, ev.eq_23, ev.eq_24, ev.eq_25, ev.eq_26, sv.eq_1, sv.eq_2, sv.eq_3, sv.eq_4, sv.eq_5, sv.eq_6, sv.eq_7, sv.eq_10, sv.eq_11, sv.eq_12, sv.eq_13, sv_for, sv_whl, ev_comp, evs, evp, evo, tv, itv_rng1, itv_rng2, itv_seq, itv_enum, items, callWith, arrange, rds, rd, after, stls, stl, immR, lite, D.imm, isTy, truth, leave, retv, keep, cop_lt, cop_gt, cop_le, cop_ge, cop_eq, cop_ne, bop_add, bop_sub]
  · have hl' : ¬ (k : Int) < ns.length := by omega
    refine ⟨if (4733 * (k : Int) + 1337) - 1000000000000000000 > 0 then (4733 * (k : Int) + 1337) - 1000000000000000000 else 0, ((4733 * (k : Int) + 1337).fmod 2147483549 * 45007 + 6797 * k + 711).fmod 2147483563 + 1, ?_⟩
    rw [callF_go g__law_pot rfl]
    simp only [b__law_pot]
    rw [svs_cons (ρ1 := [.val (.scr ns), .val (.int k), .val (.int (4733 * (k : Int) + 1337))]) (by simp [bfv, hl, hl', bop_mulL c3, entry, svs, ev.eq_1, ev.eq_2, ev.eq_3, ev.eq_4, ev.eq_5, ev.eq_6, ev.eq_7, ev.eq_8, ev.eq_9, ev.eq_10, ev.eq_11, ev.eq_12, ev.eq_13, ev.eq_14, ev.eq_15, ev.eq_16, ev.eq_17, ev.eq_18, ev.eq_19, ev.eq_20, ev.eq_21, ev.eq_22, ev.eq_23, ev.eq_24, ev.eq_25, ev.eq_26, sv.eq_1, sv.eq_2, sv.eq_3, sv.eq_4, sv.eq_5, sv.eq_6, sv.eq_7, sv.eq_10, sv.eq_11, sv.eq_12, sv.eq_13, sv_for, sv_whl, ev_comp, evs, evp, evo, tv, itv_rng1, itv_rng2, itv_seq, itv_enum, items, callWith, arrange, rds, rd, after, stls, stl, immR, lite, D.imm, isTy, truth, leave, retv, keep, cop_lt, cop_gt, cop_le, cop_ge, cop_eq, cop_ne, bop_add, bop_sub])]
    simp [bfv, pow_1018, bop_mulR c2, bop_mulL c4, bop_mod m1, bop_mod m2, entry, svs, ev.eq_1, ev.eq_2, ev.eq_3, ev.eq_4, ev.eq_5, ev.eq_6, ev.eq_7, ev.eq_8, ev.eq_9, ev.eq_10, ev.eq_11, ev.eq_12, ev.eq_13, ev.eq_14, ev.eq_15, ev.eq_16, ev.eq_17, ev.eq_18, ev.eq_19, ev.eq_20, ev.eq_21, ev.eq_22, ev.eq_23, ev.eq_24, ev.eq_25, ev.eq_26, sv.eq_1, sv.eq_2, sv.eq_3, sv.eq_4, sv.eq_5, sv.eq_6, sv.eq_7, sv.eq_10, sv.eq_11, sv.eq_12, sv.eq_13, sv_for, sv_whl, ev_comp, evs, evp, evo, tv, itv_rng1, itv_rng2, itv_seq, itv_enum, items, callWith, arrange, rds, rd, after, stls, stl, immR, lite, D.imm, isTy, truth, leave, retv, keep, cop_lt, cop_gt, cop_le, cop_ge, cop_eq, cop_ne, bop_add, bop_sub]
end
/-! the law's cuts -/
section
variable {W n : Nat}
theorem lsplit_eq {s k : Nat} {ws : List Wd} (hs : s ≤ 4) (hk : k < ws.length) (hl : ws.length < 1000000) (hw : ∀ w ∈ ws, w.length < 1000000) : callF W Γ (n + 1) "_law_split" [.int s, wsL ws, .int k] = some (.new (wsL (splitAt' s ws k)), none) := by
  have e0 : sub (wsL ws) (.int k) = some (wD ws[k]) := by
    have := sub_lst (xs := ws.map wD) (i := k) (by rwa [List.length_map])
    rw [List.getElem_map] at this
    exact this
  have hw' := hw ws[k] (List.getElem_mem hk)
  have i1 : InR (s : Int) := inR (by omega) (by omega)
  have hc : ev ⟨callF W Γ n, W⟩ (.comp e__law_split_1 (.nm 4) (.rng1 (.var 0)) .yes [4]) [.val (.int s), .val (wsL ws), .val (.int k), .val (wD ws[k]), .no] = some (.new (.lst ((kids s ws[k]).map wD)), [.val (.int s), .val (wsL ws), .val (.int k), .val (wD ws[k]), .no]) := by
    have := comp_all (C := ⟨callF W Γ n, W⟩) (e := e__law_split_1) (g := .nm 4) (it := .rng1 (.var 0)) (own := [4]) (ρ := [.val (.int s), .val (wsL ws), .val (.int k), .val (wD ws[k]), .no]) (ρ1 := [.val (.int s), .val (wsL ws), .val (.int k), .val (wD ws[k]), .no]) (rs := [])
      (List.range s) (fun (i : Nat) => D.int (0 + (i : Int))) (fun i => [.val (.int s), .val (wsL ws), .val (.int k), .val (wD ws[k]), .val (.int (0 + (i : Int)))]) (fun i => wD (ws[k] ++ [i]))
      (by simp [i1, rngN_map, entry, svs, ev.eq_1, ev.eq_2, ev.eq_3, ev.eq_4, ev.eq_5, ev.eq_6, ev.eq_7, ev.eq_8, ev.eq_9, ev.eq_10, ev.eq_11, ev.eq_12, ev.eq_13, ev.eq_14, ev.eq_15, ev.eq_16, ev.eq_17, ev.eq_18, ev.eq_19, ev.eq_20, ev.eq_21, ev.eq_22, ev.eq_23, ev.eq_24, ev.eq_25, ev.eq_26, sv.eq_1, sv.eq_2, sv.eq_3, sv.eq_4, sv.eq_5, sv.eq_6, sv.eq_7, sv.eq_10, sv.eq_11, sv.eq_12, sv.eq_13, evs, evp, evo, tv, itv_rng1, itv_rng2, itv_seq, itv_enum, items, callWith, arrange, rds, rd, after, stls, stl, immR, lite, D.imm, isTy, truth, leave, retv, keep, cop_lt, cop_gt, cop_le, cop_ge, cop_eq, cop_ne, bop_add, bop_sub]) rfl (by rw [List.length_range]; exact Nat.le_trans hs (by decide)) (fun _ => rfl) (fun _ => rfl) rfl (fun _ _ => by simp [entry, svs, ev.eq_1, ev.eq_2, ev.eq_3, ev.eq_4, ev.eq_5, ev.eq_6, ev.eq_7, ev.eq_8, ev.eq_9, ev.eq_10, ev.eq_11, ev.eq_12, ev.eq_13, ev.eq_14, ev.eq_15, ev.eq_16, ev.eq_17, ev.eq_18, ev.eq_19, ev.eq_20, ev.eq_21, ev.eq_22, ev.eq_23, ev.eq_24, ev.eq_25, ev.eq_26, sv.eq_1, sv.eq_2, sv.eq_3, sv.eq_4, sv.eq_5, sv.eq_6, sv.eq_7, sv.eq_10, sv.eq_11, sv.eq_12, sv.eq_13, evs, evp, evo, tv, itv_rng1, itv_rng2, itv_seq, itv_enum, items, callWith, arrange, rds, rd, after, stls, stl, immR, lite, D.imm, isTy, truth, leave, retv, keep, cop_lt, cop_gt, cop_le, cop_ge, cop_eq, cop_ne, bop_add, bop_sub, Lb, Lg, Lt, Lts, Le, gv, gvs, tvs, wipeE]) (fun i _ => ⟨.val (wD (ws[k] ++ [i])), by
        have b := bop_tup (xs := ws[k].map nD) (ys := [D.int (i : Int)]) (by rw [List.length_map]; show _ + 1 ≤ _; omega)
        simp [e__law_split_1, wD, nD, entry, svs, ev.eq_1, ev.eq_2, ev.eq_3, ev.eq_4, ev.eq_5, ev.eq_6, ev.eq_7, ev.eq_8, ev.eq_9, ev.eq_10, ev.eq_11, ev.eq_12, ev.eq_13, ev.eq_14, ev.eq_15, ev.eq_16, ev.eq_17, ev.eq_18, ev.eq_19, ev.eq_20, ev.eq_21, ev.eq_22, ev.eq_23, ev.eq_24, ev.eq_25, ev.eq_26, sv.eq_1, sv.eq_2, sv.eq_3, sv.eq_4, sv.eq_5, sv.eq_6, sv.eq_7, sv.eq_10, sv.eq_11, sv.eq_12, sv.eq_13, evs, evp, evo, tv, itv_rng1, itv_rng2, itv_seq, itv_enum, items, callWith, arrange, rds, rd, after, stls, stl, immR, lite, D.imm, isTy, truth, leave, retv, keep, cop_lt, cop_gt, cop_le, cop_ge, cop_eq, cop_ne, bop_add, bop_sub, Lb, Lg, Lt, Lts, Le, gv, gvs, tvs, wipeE] at b ⊢
        simp [b], by simp [stl, wD, nD]⟩) (fun _ _ => rfl)
    rw [this]
    unfold kids
    rw [List.map_map]
    rfl
  have c1 := cut_pre (ws.map wD) k
  have c2 := cut_suf (ws.map wD) (k + 1)
  have b1 := bop_lst (xs := (ws.take k).map wD) (ys := (kids s ws[k]).map wD) (by unfold kids; simp; omega)
  have b2 := bop_lst (xs := (ws.take k).map wD ++ (kids s ws[k]).map wD) (ys := (ws.drop (k + 1)).map wD) (by unfold kids; simp; omega)
  rw [Int.natCast_add] at c2
  have e9 : ws.getD k [] = ws[k] := by rw [List.getD_eq_getElem?_getD, List.getElem?_eq_getElem hk]; rfl
  rw [callF_go g__law_split rfl]
  simp only [b__law_split]
  rw [svs_cons (ρ1 := [.val (.int s), .val (wsL ws), .val (.int k), .val (wD ws[k]), .no]) (by simp [e0, entry, svs, ev.eq_1, ev.eq_2, ev.eq_3, ev.eq_4, ev.eq_5, ev.eq_6, ev.eq_7, ev.eq_8, ev.eq_9, ev.eq_10, ev.eq_11, ev.eq_12, ev.eq_13, ev.eq_14, ev.eq_15, ev.eq_16, ev.eq_17, ev.eq_18, ev.eq_19, ev.eq_20, ev.eq_21, ev.eq_22, ev.eq_23, ev.eq_24, ev.eq_25, ev.eq_26, sv.eq_1, sv.eq_2, sv.eq_3, sv.eq_4, sv.eq_5, sv.eq_6, sv.eq_7, sv.eq_10, sv.eq_11, sv.eq_12, sv.eq_13, evs, evp, evo, tv, itv_rng1, itv_rng2, itv_seq, itv_enum, items, callWith, arrange, rds, rd, after, stls, stl, immR, lite, D.imm, isTy, truth, leave, retv, keep, cop_lt, cop_gt, cop_le, cop_ge, cop_eq, cop_ne, bop_add, bop_sub])]
  simp only [wsL] at hc ⊢
  rw [Int.natCast_one] at c2
  simp only [List.map_take, List.map_drop] at b1 b2
  simp [hc, c1, c2, b1, b2, splitAt', e9, -List.getD_eq_getElem?_getD, entry, svs, ev.eq_1, ev.eq_2, ev.eq_3, ev.eq_4, ev.eq_5, ev.eq_6, ev.eq_7, ev.eq_8, ev.eq_9, ev.eq_10, ev.eq_11, ev.eq_12, ev.eq_13, ev.eq_14, ev.eq_15, ev.eq_16, ev.eq_17, ev.eq_18, ev.eq_19, ev.eq_20, ev.eq_21, ev.eq_22, ev.eq_23, ev.eq_24, ev.eq_25, ev.eq_26, sv.eq_1, sv.eq_2, sv.eq_3, sv.eq_4, sv.eq_5, sv.eq_6, sv.eq_7, sv.eq_10, sv.eq_11, sv.eq_12, sv.eq_13, evs, evp, evo, tv, itv_rng1, itv_rng2, itv_seq, itv_enum, items, callWith, arrange, rds, rd, after, stls, stl, immR, lite, D.imm, isTy, truth, leave, retv, keep, cop_lt, cop_gt, cop_le, cop_ge, cop_eq, cop_ne, bop_add, bop_sub]
end
/-! the law's list of all cuts -/
section
variable {W n : Nat}
def okCuts (s n : Nat) : Bool := (List.range n).all fun i => decide ((cutsN s i).length < 1000) && (cutsN s i).all fun c => decide (c.length < 1000) && c.all fun w => decide (w.length < 1000)
theorem lall_q1 {s k j : Nat} {acc c : List (List Nat)} {cs : List (List (List Nat))} {x2 a : Sl} {kk : Int} (hs : s ≤ 4) (hj : j < c.length) (hl : c.length < 1000000) (hw : ∀ w ∈ c, w.length < 1000000) (ha : cs.length < 16000000) :
    svs ⟨callF W Γ (n + 1), W⟩ q__law_all_cuts_1 [.val (.int s), .val (.int kk), x2, a, .own (dicD cs), .val (wsT c), .val (.int (0 + (j : Int)))] = some (.nxt, [.val (.int s), .val (.int kk), x2, a, .own (dicD (addKey cs (splitAt' s c j))), .val (wsT c), .val (.int (0 + (j : Int)))]) := by
  have e1 := lsplit_eq (W := W) (n := n) (s := s) (k := j) (ws := c) hs hj hl hw
  have e2 := putv_ws (ks := cs) (c := splitAt' s c j) ha
  simp only [wsL, wsT] at e1 e2
  simp [q__law_all_cuts_1, wsT, bfv, e1, e2, gv, Sl.cell, Sl.to, entry, svs, ev.eq_1, ev.eq_2, ev.eq_3, ev.eq_4, ev.eq_5, ev.eq_6, ev.eq_7, ev.eq_8, ev.eq_9, ev.eq_10, ev.eq_11, ev.eq_12, ev.eq_13, ev.eq_14, ev.eq_15, ev.eq_16, ev.eq_17, ev.eq_18, ev.eq_19, ev.eq_20, ev.eq_21, ev.eq_22, ev.eq_23, ev.eq_24, ev.eq_25, ev.eq_26, sv.eq_1, sv.eq_2, sv.eq_3, sv.eq_4, sv.eq_5, sv.eq_6, sv.eq_7, sv.eq_10, sv.eq_11, sv.eq_12, sv.eq_13, evs, evp, evo, tv, itv_rng1, itv_rng2, itv_seq, itv_enum, items, callWith, arrange, rds, rd, after, stls, stl, immR, lite, D.imm, isTy, truth, leave, retv, keep, cop_lt, cop_gt, cop_le, cop_ge, cop_eq, cop_ne, bop_add, bop_sub]
theorem lall_q2 {s : Nat} {c : List Wd} {cs : List (List Wd)} {x2 a z : Sl} {kk : Int} (hs : s ≤ 4) (hl : c.length < 1000) (hw : ∀ w ∈ c, w.length < 1000) (ha : cs.length + 1000 < 16000000) :
    ∃ z', svs ⟨callF W Γ (n + 1), W⟩ q__law_all_cuts_2 [.val (.int s), .val (.int kk), x2, a, .own (dicD cs), .val (wsT c), z] = some (.nxt, [.val (.int s), .val (.int kk), x2, a, .own (dicD ((List.range c.length).foldl (fun acc k => addKey acc (splitAt' s c k)) cs)), .val (wsT c), z']) ∧
      ((List.range c.length).foldl (fun acc k => addKey acc (splitAt' s c k)) cs).length ≤ cs.length + c.length := by
  have i1 : InR (c.length : Int) := inR (by omega) (by omega)
  obtain ⟨zF, h1, h2⟩ := for_junk (g := Lg ⟨callF W Γ (n + 1), W⟩ (.nm 6)) (b := Lb ⟨callF W Γ (n + 1), W⟩ q__law_all_cuts_1) (fun (j : Nat) => D.int (0 + (j : Int))) (fun acc j => addKey acc (splitAt' s c j))
    (fun acc z => [.val (.int s), .val (.int kk), x2, a, .own (dicD acc), .val (wsT c), z]) (fun i acc => acc.length ≤ cs.length + i) (List.range c.length) 0 cs z (Nat.le_refl _) (fun i acc z j hj h0 h1 hi => by
      have hj' : j < c.length := List.mem_range.mp hj
      rw [List.length_range] at h1
      refine ⟨⟨[.val (.int s), .val (.int kk), x2, a, .own (dicD acc), .val (wsT c), .val (.int (0 + (j : Int)))], .val (.int (0 + (j : Int))), by simp [Lg, gv], ?_⟩, ?_⟩
      · exact lall_q1 (k := 0) (acc := []) hs hj' (by omega) (fun w h => Nat.lt_trans (hw w h) (by decide)) (by omega)
      · have := addKey_len acc (splitAt' s c j)
        omega)
  rw [List.length_range, Nat.zero_add] at h2
  refine ⟨zF, ?_, h2⟩
  simp [q__law_all_cuts_2, bfv, wsT, i1, rngN_map, sv_for, entry, svs, ev.eq_1, ev.eq_2, ev.eq_3, ev.eq_4, ev.eq_5, ev.eq_6, ev.eq_7, ev.eq_8, ev.eq_9, ev.eq_10, ev.eq_11, ev.eq_12, ev.eq_13, ev.eq_14, ev.eq_15, ev.eq_16, ev.eq_17, ev.eq_18, ev.eq_19, ev.eq_20, ev.eq_21, ev.eq_22, ev.eq_23, ev.eq_24, ev.eq_25, ev.eq_26, sv.eq_1, sv.eq_2, sv.eq_3, sv.eq_4, sv.eq_5, sv.eq_6, sv.eq_7, sv.eq_10, sv.eq_11, sv.eq_12, sv.eq_13, evs, evp, evo, tv, itv_rng1, itv_rng2, itv_seq, itv_enum, items, callWith, arrange, rds, rd, after, stls, stl, immR, lite, D.imm, isTy, truth, leave, retv, keep, cop_lt, cop_gt, cop_le, cop_ge, cop_eq, cop_ne, bop_add, bop_sub] at h1 ⊢
  simp [h1]
theorem lall_q3 {s : Nat} {ks : List (List Wd)} {x2 a b d : Sl} {c : Option D} {kk : Int} (hs : s ≤ 4) (hx : x2 = .own (dicD ks) ∨ x2 = .val (dicD ks)) (hne : ks ≠ []) (hk : ks.length < 1000) (hl : ∀ c ∈ ks, c.length < 1000) (hw : ∀ c ∈ ks, ∀ w ∈ c, w.length < 1000) :
    ∃ b' c' d', svs ⟨callF W Γ (n + 1), W⟩ q__law_all_cuts_3 [.val (.int s), .val (.int kk), x2, a, b, slO c, d] = some (.nxt, [.val (.int s), .val (.int kk), .val (dicD (nextCuts s ks)), a, b', slO c', d']) := by
  obtain ⟨zF, h1, h2⟩ := for_junk (ζ := Option D × Sl) (g := Lg ⟨callF W Γ (n + 1), W⟩ (.nm 5)) (b := Lb ⟨callF W Γ (n + 1), W⟩ q__law_all_cuts_2) wsT (fun acc c => (List.range c.length).foldl (fun acc k => addKey acc (splitAt' s c k)) acc)
    (fun acc z => [.val (.int s), .val (.int kk), .val (dicD ks), a, .own (dicD acc), slO z.1, z.2]) (fun i acc => acc.length ≤ 1000 * i) ks 0 [] (c, d) (Nat.le_refl _) (fun i acc z cu hcu h0 h1 hi => by
      obtain ⟨z', e, hz⟩ := lall_q2 (W := W) (n := n) (s := s) (c := cu) (cs := acc) (x2 := .val (dicD ks)) (a := a) (z := z.2) (kk := kk) hs (hl cu hcu) (hw cu hcu) (by omega)
      refine ⟨⟨[.val (.int s), .val (.int kk), .val (dicD ks), a, .own (dicD acc), .val (wsT cu), z.2], (some (wsT cu), z'), by simp [Lg, gv], e⟩, ?_⟩
      have := hl cu hcu
      omega)
  refine ⟨.val (dicD (nextCuts s ks)), zF.1, zF.2, ?_⟩
  have hq := keyed_ws ks
  have he : (ks.map fun k => (wsT k, D.int 1)).isEmpty = false := by cases ks with
    | nil => exact absurd rfl hne
    | cons => rfl
  have hm : (ks.map fun k => (wsT k, D.int 1)).map (·.1) = ks.map wsT := by rw [List.map_map]; rfl
  have h1' : forF (Lg ⟨callF W Γ (n + 1), W⟩ (.nm 5)) (Lb ⟨callF W Γ (n + 1), W⟩ q__law_all_cuts_2) (ks.map wsT) [.val (.int s), .val (.int kk), .val (dicD ks), a, .own (.dic []), slO c, d] = some (.nxt, [.val (.int s), .val (.int kk), .val (dicD ks), a, .own (dicD (nextCuts s ks)), slO zF.1, zF.2]) := h1
  rcases hx with rfl | rfl
  · simp only [q__law_all_cuts_3]
    rw [svs_cons (ρ1 := [.val (.int s), .val (.int kk), .own (dicD ks), a, .own (.dic []), slO c, d]) (by simp [entry, svs, ev.eq_1, ev.eq_2, ev.eq_3, ev.eq_4, ev.eq_5, ev.eq_6, ev.eq_7, ev.eq_8, ev.eq_9, ev.eq_10, ev.eq_11, ev.eq_12, ev.eq_13, ev.eq_14, ev.eq_15, ev.eq_16, ev.eq_17, ev.eq_18, ev.eq_19, ev.eq_20, ev.eq_21, ev.eq_22, ev.eq_23, ev.eq_24, ev.eq_25, ev.eq_26, sv.eq_1, sv.eq_2, sv.eq_3, sv.eq_4, sv.eq_5, sv.eq_6, sv.eq_7, sv.eq_10, sv.eq_11, sv.eq_12, sv.eq_13, evs, evp, evo, tv, itv_rng1, itv_rng2, itv_seq, itv_enum, items, callWith, arrange, rds, rd, after, stls, stl, immR, lite, D.imm, isTy, truth, leave, retv, keep, cop_lt, cop_gt, cop_le, cop_ge, cop_eq, cop_ne, bop_add, bop_sub])]
    rw [svs_cons (ρ1 := [.val (.int s), .val (.int kk), .val (dicD ks), a, .own (dicD (nextCuts s ks)), slO zF.1, zF.2]) (by
      rw [sv_for]
      simp only [itv_seq]
      simp [keysOf, dicD, hq, he, hm, -List.map_map, -List.isEmpty_iff, entry, svs, ev.eq_1, ev.eq_2, ev.eq_3, ev.eq_4, ev.eq_5, ev.eq_6, ev.eq_7, ev.eq_8, ev.eq_9, ev.eq_10, ev.eq_11, ev.eq_12, ev.eq_13, ev.eq_14, ev.eq_15, ev.eq_16, ev.eq_17, ev.eq_18, ev.eq_19, ev.eq_20, ev.eq_21, ev.eq_22, ev.eq_23, ev.eq_24, ev.eq_25, ev.eq_26, sv.eq_1, sv.eq_2, sv.eq_3, sv.eq_4, sv.eq_5, sv.eq_6, sv.eq_7, sv.eq_10, sv.eq_11, sv.eq_12, sv.eq_13, evs, evp, evo, tv, itv_rng1, itv_rng2, itv_seq, itv_enum, items, callWith, arrange, rds, rd, after, stls, stl, immR, lite, D.imm, isTy, truth, leave, retv, keep, cop_lt, cop_gt, cop_le, cop_ge, cop_eq, cop_ne, bop_add, bop_sub]
      exact h1')]
    simp [entry, svs, ev.eq_1, ev.eq_2, ev.eq_3, ev.eq_4, ev.eq_5, ev.eq_6, ev.eq_7, ev.eq_8, ev.eq_9, ev.eq_10, ev.eq_11, ev.eq_12, ev.eq_13, ev.eq_14, ev.eq_15, ev.eq_16, ev.eq_17, ev.eq_18, ev.eq_19, ev.eq_20, ev.eq_21, ev.eq_22, ev.eq_23, ev.eq_24, ev.eq_25, ev.eq_26, sv.eq_1, sv.eq_2, sv.eq_3, sv.eq_4, sv.eq_5, sv.eq_6, sv.eq_7, sv.eq_10, sv.eq_11, sv.eq_12, sv.eq_13, evs, evp, evo, tv, itv_rng1, itv_rng2, itv_seq, itv_enum, items, callWith, arrange, rds, rd, after, stls, stl, immR, lite, D.imm, isTy, truth, leave, retv, keep, cop_lt, cop_gt, cop_le, cop_ge, cop_eq, cop_ne, bop_add, bop_sub]
  · simp only [q__law_all_cuts_3]
    rw [svs_cons (ρ1 := [.val (.int s), .val (.int kk), .val (dicD ks), a, .own (.dic []), slO c, d]) (by simp [entry, svs, ev.eq_1, ev.eq_2, ev.eq_3, ev.eq_4, ev.eq_5, ev.eq_6, ev.eq_7, ev.eq_8, ev.eq_9, ev.eq_10, ev.eq_11, ev.eq_12, ev.eq_13, ev.eq_14, ev.eq_15, ev.eq_16, ev.eq_17, ev.eq_18, ev.eq_19, ev.eq_20, ev.eq_21, ev.eq_22, ev.eq_23, ev.eq_24, ev.eq_25, ev.eq_26, sv.eq_1, sv.eq_2, sv.eq_3, sv.eq_4, sv.eq_5, sv.eq_6, sv.eq_7, sv.eq_10, sv.eq_11, sv.eq_12, sv.eq_13, evs, evp, evo, tv, itv_rng1, itv_rng2, itv_seq, itv_enum, items, callWith, arrange, rds, rd, after, stls, stl, immR, lite, D.imm, isTy, truth, leave, retv, keep, cop_lt, cop_gt, cop_le, cop_ge, cop_eq, cop_ne, bop_add, bop_sub])]
    rw [svs_cons (ρ1 := [.val (.int s), .val (.int kk), .val (dicD ks), a, .own (dicD (nextCuts s ks)), slO zF.1, zF.2]) (by
      rw [sv_for]
      simp only [itv_seq]
      simp [keysOf, dicD, hq, he, hm, -List.map_map, -List.isEmpty_iff, entry, svs, ev.eq_1, ev.eq_2, ev.eq_3, ev.eq_4, ev.eq_5, ev.eq_6, ev.eq_7, ev.eq_8, ev.eq_9, ev.eq_10, ev.eq_11, ev.eq_12, ev.eq_13, ev.eq_14, ev.eq_15, ev.eq_16, ev.eq_17, ev.eq_18, ev.eq_19, ev.eq_20, ev.eq_21, ev.eq_22, ev.eq_23, ev.eq_24, ev.eq_25, ev.eq_26, sv.eq_1, sv.eq_2, sv.eq_3, sv.eq_4, sv.eq_5, sv.eq_6, sv.eq_7, sv.eq_10, sv.eq_11, sv.eq_12, sv.eq_13, evs, evp, evo, tv, itv_rng1, itv_rng2, itv_seq, itv_enum, items, callWith, arrange, rds, rd, after, stls, stl, immR, lite, D.imm, isTy, truth, leave, retv, keep, cop_lt, cop_gt, cop_le, cop_ge, cop_eq, cop_ne, bop_add, bop_sub]
      exact h1')]
    simp [entry, svs, ev.eq_1, ev.eq_2, ev.eq_3, ev.eq_4, ev.eq_5, ev.eq_6, ev.eq_7, ev.eq_8, ev.eq_9, ev.eq_10, ev.eq_11, ev.eq_12, ev.eq_13, ev.eq_14, ev.eq_15, ev.eq_16, ev.eq_17, ev.eq_18, ev.eq_19, ev.eq_20, ev.eq_21, ev.eq_22, ev.eq_23, ev.eq_24, ev.eq_25, ev.eq_26, sv.eq_1, sv.eq_2, sv.eq_3, sv.eq_4, sv.eq_5, sv.eq_6, sv.eq_7, sv.eq_10, sv.eq_11, sv.eq_12, sv.eq_13, evs, evp, evo, tv, itv_rng1, itv_rng2, itv_seq, itv_enum, items, callWith, arrange, rds, rd, after, stls, stl, immR, lite, D.imm, isTy, truth, leave, retv, keep, cop_lt, cop_gt, cop_le, cop_ge, cop_eq, cop_ne, bop_add, bop_sub]
theorem lall_eq {s k : Nat} (hs : s ≤ 4) (hk : k < 1000) (ok : okCuts s k = true) (hn : ∀ i, i ≤ k → cutsN s i ≠ []) (h0 : ∀ c ∈ cutsN s k, c ≠ []) (hlen : (cutsN s k).length < 1000) : callF W Γ (n + 2) "_law_all_cuts" [.int s, .int k] = some (.new (.lst ((allCuts s k).map wsL)), none) := by
  have i1 : InR (k : Int) := inR (by omega) (by omega)
  have okc : ∀ i, i < k → (cutsN s i).length < 1000 ∧ ∀ c ∈ cutsN s i, c.length < 1000 ∧ ∀ w ∈ c, w.length < 1000 := fun i hi => by
    have h := List.all_eq_true.mp ok i (List.mem_range.mpr hi)
    rw [Bool.and_eq_true, decide_eq_true_eq] at h
    refine ⟨h.1, fun c hc => ?_⟩
    have h2 := List.all_eq_true.mp h.2 c hc
    rw [Bool.and_eq_true, decide_eq_true_eq] at h2
    exact ⟨h2.1, fun w hw => by simpa using List.all_eq_true.mp h2.2 w hw⟩
  rw [callF_go g__law_all_cuts rfl]
  simp only [b__law_all_cuts]
  rw [svs_cons (ρ1 := [.val (.int s), .val (.int k), .own (dicD [[[]]]), .no, .no, .no, .no]) (by
    have hq : (nkT (D.tup [D.tup []])).isSome = true := rfl
    simp [hq, dicD, wsT, wD, nD, entry, svs, ev.eq_1, ev.eq_2, ev.eq_3, ev.eq_4, ev.eq_5, ev.eq_6, ev.eq_7, ev.eq_8, ev.eq_9, ev.eq_10, ev.eq_11, ev.eq_12, ev.eq_13, ev.eq_14, ev.eq_15, ev.eq_16, ev.eq_17, ev.eq_18, ev.eq_19, ev.eq_20, ev.eq_21, ev.eq_22, ev.eq_23, ev.eq_24, ev.eq_25, ev.eq_26, sv.eq_1, sv.eq_2, sv.eq_3, sv.eq_4, sv.eq_5, sv.eq_6, sv.eq_7, sv.eq_10, sv.eq_11, sv.eq_12, sv.eq_13, evs, evp, evo, tv, itv_rng1, itv_rng2, itv_seq, itv_enum, items, callWith, arrange, rds, rd, after, stls, stl, immR, lite, D.imm, isTy, truth, leave, retv, keep, cop_lt, cop_gt, cop_le, cop_ge, cop_eq, cop_ne, bop_add, bop_sub])]
  obtain ⟨ρF, e, x2, a, b, c, d, rfl, hx⟩ := forF_rng (lo := 0) (n := k) (g := Lg ⟨callF W Γ (n + 1), W⟩ (.nm 3)) (b := Lb ⟨callF W Γ (n + 1), W⟩ q__law_all_cuts_3) (ρ0 := [.val (.int s), .val (.int k), .own (dicD [[[]]]), .no, .no, .no, .no])
    (fun i ρ => ∃ x2 a b, ∃ c : Option D, ∃ d, ρ = [.val (.int s), .val (.int k), x2, a, b, slO c, d] ∧ (x2 = .own (dicD (cutsN s i)) ∨ x2 = .val (dicD (cutsN s i)))) ⟨_, _, _, none, _, rfl, .inl rfl⟩ fun i ρ hi ⟨x2, a, b, c, d, e, hx⟩ => by
      subst e
      obtain ⟨h1, h2⟩ := okc i hi
      obtain ⟨b', c', d', e⟩ := lall_q3 (W := W) (n := n) (s := s) (ks := cutsN s i) (x2 := x2) (a := .val (.int (0 + (i : Int)))) (b := b) (c := c) (d := d) (kk := k) hs hx (hn i (by omega)) h1 (fun c hc => (h2 c hc).1) fun c hc => (h2 c hc).2
      exact ⟨[.val (.int s), .val (.int k), x2, .val (.int (0 + (i : Int))), b, slO c, d], _, by simp [Lg, gv], e, _, _, _, _, _, rfl, .inr rfl⟩
  rw [svs_cons (ρ1 := [.val (.int s), .val (.int k), x2, a, b, slO c, d]) (by simp [i1, e, sv_for, entry, svs, ev.eq_1, ev.eq_2, ev.eq_3, ev.eq_4, ev.eq_5, ev.eq_6, ev.eq_7, ev.eq_8, ev.eq_9, ev.eq_10, ev.eq_11, ev.eq_12, ev.eq_13, ev.eq_14, ev.eq_15, ev.eq_16, ev.eq_17, ev.eq_18, ev.eq_19, ev.eq_20, ev.eq_21, ev.eq_22, ev.eq_23, ev.eq_24, ev.eq_25, ev.eq_26, sv.eq_1, sv.eq_2, sv.eq_3, sv.eq_4, sv.eq_5, sv.eq_6, sv.eq_7, sv.eq_10, sv.eq_11, sv.eq_12, sv.eq_13, evs, evp, evo, tv, itv_rng1, itv_rng2, itv_seq, itv_enum, items, callWith, arrange, rds, rd, after, stls, stl, immR, lite, D.imm, isTy, truth, leave, retv, keep, cop_lt, cop_gt, cop_le, cop_ge, cop_eq, cop_ne, bop_add, bop_sub])]
  have srtd := sorted_dicD (hn k (Nat.le_refl _)) h0
  have hl2 : (isrt clt (cutsN s k)).length ≤ LL := by
    rw [(isrt_perm clt _).length_eq]
    exact Nat.le_trans (Nat.le_of_lt hlen) (by decide)
  have hc : ev ⟨callF W Γ (n + 1), W⟩ (.comp e__law_all_cuts_4 (.nm 5) (.seq (.bf .sorted (.cons (.var 2) .nil))) .yes [5]) [.val (.int s), .val (.int k), x2, a, b, slO c, d] = some (.new (.lst ((allCuts s k).map wsL)), [.val (.int s), .val (.int k), x2, a, b, slO c, d]) := by
    refine comp_all (isrt clt (cutsN s k)) wsT (fun w => [.val (.int s), .val (.int k), x2, a, b, .val (wsT w), d]) wsL (rs := [.new (.lst ((isrt clt (cutsN s k)).map wsT))]) ?_ ?_ hl2 (fun _ => rfl) (fun _ => rfl) rfl (fun _ _ => by simp [entry, svs, ev.eq_1, ev.eq_2, ev.eq_3, ev.eq_4, ev.eq_5, ev.eq_6, ev.eq_7, ev.eq_8, ev.eq_9, ev.eq_10, ev.eq_11, ev.eq_12, ev.eq_13, ev.eq_14, ev.eq_15, ev.eq_16, ev.eq_17, ev.eq_18, ev.eq_19, ev.eq_20, ev.eq_21, ev.eq_22, ev.eq_23, ev.eq_24, ev.eq_25, ev.eq_26, sv.eq_1, sv.eq_2, sv.eq_3, sv.eq_4, sv.eq_5, sv.eq_6, sv.eq_7, sv.eq_10, sv.eq_11, sv.eq_12, sv.eq_13, evs, evp, evo, tv, itv_rng1, itv_rng2, itv_seq, itv_enum, items, callWith, arrange, rds, rd, after, stls, stl, immR, lite, D.imm, isTy, truth, leave, retv, keep, cop_lt, cop_gt, cop_le, cop_ge, cop_eq, cop_ne, bop_add, bop_sub, Lb, Lg, Lt, Lts, Le, gv, gvs, tvs, wipeE]) (fun w _ => ⟨.new (wsL w), by simp [e__law_all_cuts_4, bfv, wsT, wsL, entry, svs, ev.eq_1, ev.eq_2, ev.eq_3, ev.eq_4, ev.eq_5, ev.eq_6, ev.eq_7, ev.eq_8, ev.eq_9, ev.eq_10, ev.eq_11, ev.eq_12, ev.eq_13, ev.eq_14, ev.eq_15, ev.eq_16, ev.eq_17, ev.eq_18, ev.eq_19, ev.eq_20, ev.eq_21, ev.eq_22, ev.eq_23, ev.eq_24, ev.eq_25, ev.eq_26, sv.eq_1, sv.eq_2, sv.eq_3, sv.eq_4, sv.eq_5, sv.eq_6, sv.eq_7, sv.eq_10, sv.eq_11, sv.eq_12, sv.eq_13, evs, evp, evo, tv, itv_rng1, itv_rng2, itv_seq, itv_enum, items, callWith, arrange, rds, rd, after, stls, stl, immR, lite, D.imm, isTy, truth, leave, retv, keep, cop_lt, cop_gt, cop_le, cop_ge, cop_eq, cop_ne, bop_add, bop_sub, Lb, Lg, Lt, Lts, Le, gv, gvs, tvs, wipeE], rfl⟩) (fun _ _ => rfl)
    · rcases hx with rfl | rfl <;> simp [srtd, entry, svs, ev.eq_1, ev.eq_2, ev.eq_3, ev.eq_4, ev.eq_5, ev.eq_6, ev.eq_7, ev.eq_8, ev.eq_9, ev.eq_10, ev.eq_11, ev.eq_12, ev.eq_13, ev.eq_14, ev.eq_15, ev.eq_16, ev.eq_17, ev.eq_18, ev.eq_19, ev.eq_20, ev.eq_21, ev.eq_22, ev.eq_23, ev.eq_24, ev.eq_25, ev.eq_26, sv.eq_1, sv.eq_2, sv.eq_3, sv.eq_4, sv.eq_5, sv.eq_6, sv.eq_7, sv.eq_10, sv.eq_11, sv.eq_12, sv.eq_13, evs, evp, evo, tv, itv_rng1, itv_rng2, itv_seq, itv_enum, items, callWith, arrange, rds, rd, after, stls, stl, immR, lite, D.imm, isTy, truth, leave, retv, keep, cop_lt, cop_gt, cop_le, cop_ge, cop_eq, cop_ne, bop_add, bop_sub]
    · cases c <;> rfl
  simp [hc, entry, svs, ev.eq_1, ev.eq_2, ev.eq_3, ev.eq_4, ev.eq_5, ev.eq_6, ev.eq_7, ev.eq_8, ev.eq_9, ev.eq_10, ev.eq_11, ev.eq_12, ev.eq_13, ev.eq_14, ev.eq_15, ev.eq_16, ev.eq_17, ev.eq_18, ev.eq_19, ev.eq_20, ev.eq_21, ev.eq_22, ev.eq_23, ev.eq_24, ev.eq_25, ev.eq_26, sv.eq_1, sv.eq_2, sv.eq_3, sv.eq_4, sv.eq_5, sv.eq_6, sv.eq_7, sv.eq_10, sv.eq_11, sv.eq_12, sv.eq_13, evs, evp, evo, tv, itv_rng1, itv_rng2, itv_seq, itv_enum, items, callWith, arrange, rds, rd, after, stls, stl, immR, lite, D.imm, isTy, truth, leave, retv, keep, cop_lt, cop_gt, cop_le, cop_ge, cop_eq, cop_ne, bop_add, bop_sub]
end
end G92

set_option linter.all false
set_option autoImplicit false
set_option Elab.async false
set_option maxRecDepth 100000
set_option maxHeartbeats 1000000
namespace G92
open PySem (Str)
open Z
/-! the program's cuts by position -/
section
variable {W n : Nat}
theorem flats_nD : ∀ (w : Wd) (k : Nat), D.flats k (w.map nD) = true
  | [], k => by simp [D.flats]
  | a :: w, k => by
    have h := flats_nD w k
    cases k <;> simp [D.flats, nD, D.flat] at h ⊢ <;> exact h
theorem flats_wD : ∀ (ws : List Wd) (k : Nat), D.flats (k + 1) (ws.map wD) = true
  | [], k => by simp [D.flats]
  | w :: ws, k => by
    rw [List.map_cons, D.flats, flats_wD ws k, Bool.and_true]
    show D.flat (k + 1) (.tup (w.map nD)) = true
    rw [D.flat, flats_nD]
theorem wsL_fl (ws : List Wd) : (D.lst (ws.map wD)).fl = true := by
  show D.flat 20 (.lst (ws.map wD)) = true
  rw [D.flat, flats_wD]
theorem ne_nil (ws : List Wd) : cop .NotEq (.lst (ws.map wD)) (.lst []) = some (!ws.isEmpty) := by
  have : cop .NotEq (.lst (ws.map wD)) (.lst []) = if ((D.lst (ws.map wD)).fl && (D.lst []).fl) = true then some (!D.eqv (.lst (ws.map wD)) (.lst [])) else none := rfl
  have h2 : (D.lst []).fl = true := rfl
  rw [this, wsL_fl, h2, Bool.and_true, if_pos rfl]
  cases ws <;> rfl
theorem split_of_eq {s : Nat} {w : Wd} (hs : s ≤ 4) (hw : w.length < 1000000) : callF W Γ (n + 1) "split_of" [.int s, .tup (w.map nD)] = some (.new (.lst ((kids s w).map wD)), none) := by
  have i1 : InR (s : Int) := inR (by omega) (by omega)
  have hc : ev ⟨callF W Γ n, W⟩ (.comp e_split_of_1 (.nm 2) (.rng1 (.var 0)) .yes [2]) [.val (.int s), .val (.tup (w.map nD)), .no] = some (.new (.lst ((kids s w).map wD)), [.val (.int s), .val (.tup (w.map nD)), .no]) := by
    have := comp_all (C := ⟨callF W Γ n, W⟩) (e := e_split_of_1) (g := .nm 2) (it := .rng1 (.var 0)) (own := [2]) (ρ := [.val (.int s), .val (.tup (w.map nD)), .no]) (ρ1 := [.val (.int s), .val (.tup (w.map nD)), .no]) (rs := [])
      (List.range s) (fun (i : Nat) => D.int (0 + (i : Int))) (fun i => [.val (.int s), .val (.tup (w.map nD)), .val (.int (0 + (i : Int)))]) (fun i => wD (w ++ [i]))
      (by simp [i1, rngN_map, entry, svs, ev.eq_1, ev.eq_2, ev.eq_3, ev.eq_4, ev.eq_5, ev.eq_6, ev.eq_7, ev.eq_8, ev.eq_9, ev.eq_10, ev.eq_11, ev.eq_12, ev.eq_13, ev.eq_14, ev.eq_15, ev.eq_16, ev.eq_17, ev.eq_18, ev.eq_19, ev.eq_20, ev.eq_21, ev.eq_22, ev.eq_23, ev.eq_24, ev.eq_25, ev.eq_26, sv.eq_1, sv.eq_2, sv.eq_3, sv.eq_4, sv.eq_5, sv.eq_6, sv.eq_7, sv.eq_10, sv.eq_11, sv.eq_12, sv.eq_13, evs, evp, evo, tv, itv_rng1, itv_rng2, itv_seq, itv_enum, items, callWith, arrange, rds, rd, after, stls, stl, immR, lite, D.imm, isTy, truth, leave, retv, keep, cop_lt, cop_gt, cop_le, cop_ge, cop_eq, cop_ne, bop_add, bop_sub]) rfl (by rw [List.length_range]; exact Nat.le_trans hs (by decide)) (fun _ => rfl) (fun _ => rfl) rfl (fun _ _ => by simp [entry, svs, ev.eq_1, ev.eq_2, ev.eq_3, ev.eq_4, ev.eq_5, ev.eq_6, ev.eq_7, ev.eq_8, ev.eq_9, ev.eq_10, ev.eq_11, ev.eq_12, ev.eq_13, ev.eq_14, ev.eq_15, ev.eq_16, ev.eq_17, ev.eq_18, ev.eq_19, ev.eq_20, ev.eq_21, ev.eq_22, ev.eq_23, ev.eq_24, ev.eq_25, ev.eq_26, sv.eq_1, sv.eq_2, sv.eq_3, sv.eq_4, sv.eq_5, sv.eq_6, sv.eq_7, sv.eq_10, sv.eq_11, sv.eq_12, sv.eq_13, evs, evp, evo, tv, itv_rng1, itv_rng2, itv_seq, itv_enum, items, callWith, arrange, rds, rd, after, stls, stl, immR, lite, D.imm, isTy, truth, leave, retv, keep, cop_lt, cop_gt, cop_le, cop_ge, cop_eq, cop_ne, bop_add, bop_sub, Lb, Lg, Lt, Lts, Le, gv, gvs, tvs, wipeE]) (fun i _ => ⟨.val (wD (w ++ [i])), by
        have b := bop_tup (xs := w.map nD) (ys := [D.int (i : Int)]) (by rw [List.length_map]; show _ + 1 ≤ _; omega)
        simp [e_split_of_1, wD, nD, entry, svs, ev.eq_1, ev.eq_2, ev.eq_3, ev.eq_4, ev.eq_5, ev.eq_6, ev.eq_7, ev.eq_8, ev.eq_9, ev.eq_10, ev.eq_11, ev.eq_12, ev.eq_13, ev.eq_14, ev.eq_15, ev.eq_16, ev.eq_17, ev.eq_18, ev.eq_19, ev.eq_20, ev.eq_21, ev.eq_22, ev.eq_23, ev.eq_24, ev.eq_25, ev.eq_26, sv.eq_1, sv.eq_2, sv.eq_3, sv.eq_4, sv.eq_5, sv.eq_6, sv.eq_7, sv.eq_10, sv.eq_11, sv.eq_12, sv.eq_13, evs, evp, evo, tv, itv_rng1, itv_rng2, itv_seq, itv_enum, items, callWith, arrange, rds, rd, after, stls, stl, immR, lite, D.imm, isTy, truth, leave, retv, keep, cop_lt, cop_gt, cop_le, cop_ge, cop_eq, cop_ne, bop_add, bop_sub, Lb, Lg, Lt, Lts, Le, gv, gvs, tvs, wipeE] at b ⊢
        simp [b], by simp [stl, wD, nD]⟩) (fun _ _ => rfl)
    rw [this]
    unfold kids
    rw [List.map_map]
    rfl
  rw [callF_go g_split_of rfl]
  simp [b_split_of, hc, entry, svs, ev.eq_1, ev.eq_2, ev.eq_3, ev.eq_4, ev.eq_5, ev.eq_6, ev.eq_7, ev.eq_8, ev.eq_9, ev.eq_10, ev.eq_11, ev.eq_12, ev.eq_13, ev.eq_14, ev.eq_15, ev.eq_16, ev.eq_17, ev.eq_18, ev.eq_19, ev.eq_20, ev.eq_21, ev.eq_22, ev.eq_23, ev.eq_24, ev.eq_25, ev.eq_26, sv.eq_1, sv.eq_2, sv.eq_3, sv.eq_4, sv.eq_5, sv.eq_6, sv.eq_7, sv.eq_10, sv.eq_11, sv.eq_12, sv.eq_13, evs, evp, evo, tv, itv_rng1, itv_rng2, itv_seq, itv_enum, items, callWith, arrange, rds, rd, after, stls, stl, immR, lite, D.imm, isTy, truth, leave, retv, keep, cop_lt, cop_gt, cop_le, cop_ge, cop_eq, cop_ne, bop_add, bop_sub]
theorem built_step {s splits pos left : Nat} {w : Wd} {st fnd : List Wd} {x6 x7 : Sl} (h0 : 2 ≤ s) (hs : s ≤ 4) (hst : st.length ≤ 900) (hl : left ≤ 900) (hw : w.length < 1000000) (hf : fnd.length < 1000000) (hp : FN s st.length left ≤ pos → 1 ≤ left) :
    svs ⟨callF W Γ (n + 2), W⟩ q_built_1 [.val (.int s), .val (.int splits), .val (.int pos), .val (.int left), .own (.lst ((w :: st).reverse.map wD)), .own (.lst (fnd.map wD)), x6, x7] = some (.nxt,
      if pos < FN s st.length left then [.val (.int s), .val (.int splits), .val (.int pos), .val (.int left), .own (.lst (st.reverse.map wD)), .own (.lst ((fnd ++ [w]).map wD)), .val (wD w), .val (.int (FN s st.length left : Nat))]
      else [.val (.int s), .val (.int splits), .val (.int (pos - FN s st.length left : Nat)), .val (.int (left - 1 : Nat)), .own (.lst ((kids s w ++ st).reverse.map wD)), .own (.lst (fnd.map wD)), .val (wD w), .val (.int (FN s st.length left : Nat))]) := by
  have f := forests_eq (W := W) (n := n) (s := s) (m := st.length) (k := left) (by omega) (by omega) (by omega) (by
    by_cases h : left = 0
    · exact .inl h
    · right
      have : 0 < s * left := Nat.mul_pos (by omega) (by omega)
      omega)
  have e1 : ((w :: st).reverse.map wD).getLast? = some (wD w) := by simp
  have e2 : ((w :: st).reverse.map wD).dropLast = st.reverse.map wD := by simp
  have lf : (fnd.map wD).length < LL := by rw [List.length_map]; exact Nat.lt_of_lt_of_le hf (by decide)
  simp only [q_built_1]
  rw [svs_cons (ρ1 := [.val (.int s), .val (.int splits), .val (.int pos), .val (.int left), .own (.lst (st.reverse.map wD)), .own (.lst (fnd.map wD)), .val (wD w), x7]) (by
    simp only [List.map_reverse] at e1 e2
    simp [Sl.cell, Sl.to, mmv, e1, e2, -List.getLast?_reverse, -List.dropLast_reverse, -List.reverse_cons, -List.map_cons, entry, svs, ev.eq_1, ev.eq_2, ev.eq_3, ev.eq_4, ev.eq_5, ev.eq_6, ev.eq_7, ev.eq_8, ev.eq_9, ev.eq_10, ev.eq_11, ev.eq_12, ev.eq_13, ev.eq_14, ev.eq_15, ev.eq_16, ev.eq_17, ev.eq_18, ev.eq_19, ev.eq_20, ev.eq_21, ev.eq_22, ev.eq_23, ev.eq_24, ev.eq_25, ev.eq_26, sv.eq_1, sv.eq_2, sv.eq_3, sv.eq_4, sv.eq_5, sv.eq_6, sv.eq_7, sv.eq_10, sv.eq_11, sv.eq_12, sv.eq_13, evs, evp, evo, tv, itv_rng1, itv_rng2, itv_seq, itv_enum, items, callWith, arrange, rds, rd, after, stls, stl, immR, lite, D.imm, isTy, truth, leave, retv, keep, cop_lt, cop_gt, cop_le, cop_ge, cop_eq, cop_ne, bop_add, bop_sub])]
  rw [svs_cons (ρ1 := [.val (.int s), .val (.int splits), .val (.int pos), .val (.int left), .own (.lst (st.reverse.map wD)), .own (.lst (fnd.map wD)), .val (wD w), .val (.int (FN s st.length left : Nat))]) (by
    simp [bfv, f, entry, svs, ev.eq_1, ev.eq_2, ev.eq_3, ev.eq_4, ev.eq_5, ev.eq_6, ev.eq_7, ev.eq_8, ev.eq_9, ev.eq_10, ev.eq_11, ev.eq_12, ev.eq_13, ev.eq_14, ev.eq_15, ev.eq_16, ev.eq_17, ev.eq_18, ev.eq_19, ev.eq_20, ev.eq_21, ev.eq_22, ev.eq_23, ev.eq_24, ev.eq_25, ev.eq_26, sv.eq_1, sv.eq_2, sv.eq_3, sv.eq_4, sv.eq_5, sv.eq_6, sv.eq_7, sv.eq_10, sv.eq_11, sv.eq_12, sv.eq_13, evs, evp, evo, tv, itv_rng1, itv_rng2, itv_seq, itv_enum, items, callWith, arrange, rds, rd, after, stls, stl, immR, lite, D.imm, isTy, truth, leave, retv, keep, cop_lt, cop_gt, cop_le, cop_ge, cop_eq, cop_ne, bop_add, bop_sub])]
  by_cases c : pos < FN s st.length left
  · have c' : (pos : Int) < (FN s st.length left : Nat) := by omega
    rw [if_pos c]
    simp only [List.length_map] at lf
    simp [c', Sl.cell, Sl.to, mmv, lf, wD, entry, svs, ev.eq_1, ev.eq_2, ev.eq_3, ev.eq_4, ev.eq_5, ev.eq_6, ev.eq_7, ev.eq_8, ev.eq_9, ev.eq_10, ev.eq_11, ev.eq_12, ev.eq_13, ev.eq_14, ev.eq_15, ev.eq_16, ev.eq_17, ev.eq_18, ev.eq_19, ev.eq_20, ev.eq_21, ev.eq_22, ev.eq_23, ev.eq_24, ev.eq_25, ev.eq_26, sv.eq_1, sv.eq_2, sv.eq_3, sv.eq_4, sv.eq_5, sv.eq_6, sv.eq_7, sv.eq_10, sv.eq_11, sv.eq_12, sv.eq_13, evs, evp, evo, tv, itv_rng1, itv_rng2, itv_seq, itv_enum, items, callWith, arrange, rds, rd, after, stls, stl, immR, lite, D.imm, isTy, truth, leave, retv, keep, cop_lt, cop_gt, cop_le, cop_ge, cop_eq, cop_ne, bop_add, bop_sub]
  · have c' : ¬ (pos : Int) < (FN s st.length left : Nat) := by omega
    have hl' : 1 ≤ left := hp (by omega)
    have sp := split_of_eq (W := W) (n := n + 1) (s := s) (w := w) hs hw
    have a1 : (pos : Int) - (FN s st.length left : Nat) = (pos - FN s st.length left : Nat) := by omega
    have a2 : (left : Int) - 1 = (left - 1 : Nat) := by omega
    have hL : (16000000 : Nat) = LL := rfl
    have b1 : st.length ≤ LL := by omega
    have b2 : (kids s w).length ≤ LL := by rw [kids_len]; omega
    have b3 : st.length + (kids s w).length ≤ LL := by rw [kids_len]; omega
    rw [if_neg c]
    simp [c', a1, a2, sp, Sl.cell, Sl.to, mmv, wD, setAll, b1, b2, b3, noAt, entry, svs, ev.eq_1, ev.eq_2, ev.eq_3, ev.eq_4, ev.eq_5, ev.eq_6, ev.eq_7, ev.eq_8, ev.eq_9, ev.eq_10, ev.eq_11, ev.eq_12, ev.eq_13, ev.eq_14, ev.eq_15, ev.eq_16, ev.eq_17, ev.eq_18, ev.eq_19, ev.eq_20, ev.eq_21, ev.eq_22, ev.eq_23, ev.eq_24, ev.eq_25, ev.eq_26, sv.eq_1, sv.eq_2, sv.eq_3, sv.eq_4, sv.eq_5, sv.eq_6, sv.eq_7, sv.eq_10, sv.eq_11, sv.eq_12, sv.eq_13, evs, evp, evo, tv, itv_rng1, itv_rng2, itv_seq, itv_enum, items, callWith, arrange, rds, rd, after, stls, stl, immR, lite, D.imm, isTy, truth, leave, retv, keep, cop_lt, cop_gt, cop_le, cop_ge, cop_eq, cop_ne, bop_add, bop_sub]
theorem built_loop {s splits : Nat} (h0 : 2 ≤ s) (hs : s ≤ 4) : ∀ (f V pos left : Nat) (st fnd : List Wd) (x6 x7 : Sl), s * left + st.length ≤ f → f < V → pos < FN s st.length left → f + fnd.length ≤ 900 → left ≤ 900 → (∀ w ∈ st, w.length + left ≤ 900) →
    ∃ y2 y3 y6 y7 : Sl, whlF (Lt ⟨callF W Γ (n + 2), W⟩ t_built_1) (Lb ⟨callF W Γ (n + 2), W⟩ q_built_1) V [.val (.int s), .val (.int splits), .val (.int pos), .val (.int left), .own (.lst (st.reverse.map wD)), .own (.lst (fnd.map wD)), x6, x7] =
      some (.nxt, [.val (.int s), .val (.int splits), y2, y3, .own (.lst []), .own (.lst ((fnd ++ bld s f pos left st).map wD)), y6, y7]) := by
  intro f
  induction f with
  | zero =>
    intro V pos left st fnd x6 x7 hm hV hp _ _ _
    cases V with
    | zero => omega
    | succ V =>
      have : st = [] := List.eq_nil_of_length_eq_zero (by omega)
      subst this
      refine ⟨.val (.int pos), .val (.int left), x6, x7, ?_⟩
      simp [whlF, t_built_1, ne_nil [], bld, -List.map_reverse, -List.map_nil, entry, svs, ev.eq_1, ev.eq_2, ev.eq_3, ev.eq_4, ev.eq_5, ev.eq_6, ev.eq_7, ev.eq_8, ev.eq_9, ev.eq_10, ev.eq_11, ev.eq_12, ev.eq_13, ev.eq_14, ev.eq_15, ev.eq_16, ev.eq_17, ev.eq_18, ev.eq_19, ev.eq_20, ev.eq_21, ev.eq_22, ev.eq_23, ev.eq_24, ev.eq_25, ev.eq_26, sv.eq_1, sv.eq_2, sv.eq_3, sv.eq_4, sv.eq_5, sv.eq_6, sv.eq_7, sv.eq_10, sv.eq_11, sv.eq_12, sv.eq_13, evs, evp, evo, tv, itv_rng1, itv_rng2, itv_seq, itv_enum, items, callWith, arrange, rds, rd, after, stls, stl, immR, lite, D.imm, isTy, truth, leave, retv, keep, cop_lt, cop_gt, cop_le, cop_ge, cop_eq, cop_ne, bop_add, bop_sub, Lb, Lg, Lt, Lts, Le, gv, gvs, tvs, wipeE]
  | succ f ih =>
    intro V pos left st fnd x6 x7 hm hV hp hfn hl hw
    cases V with
    | zero => omega
    | succ V =>
      cases st with
      | nil =>
        refine ⟨.val (.int pos), .val (.int left), x6, x7, ?_⟩
        have := ne_nil []
        simp only [List.map_nil] at this
        simp [whlF, t_built_1, this, bld, entry, svs, ev.eq_1, ev.eq_2, ev.eq_3, ev.eq_4, ev.eq_5, ev.eq_6, ev.eq_7, ev.eq_8, ev.eq_9, ev.eq_10, ev.eq_11, ev.eq_12, ev.eq_13, ev.eq_14, ev.eq_15, ev.eq_16, ev.eq_17, ev.eq_18, ev.eq_19, ev.eq_20, ev.eq_21, ev.eq_22, ev.eq_23, ev.eq_24, ev.eq_25, ev.eq_26, sv.eq_1, sv.eq_2, sv.eq_3, sv.eq_4, sv.eq_5, sv.eq_6, sv.eq_7, sv.eq_10, sv.eq_11, sv.eq_12, sv.eq_13, evs, evp, evo, tv, itv_rng1, itv_rng2, itv_seq, itv_enum, items, callWith, arrange, rds, rd, after, stls, stl, immR, lite, D.imm, isTy, truth, leave, retv, keep, cop_lt, cop_gt, cop_le, cop_ge, cop_eq, cop_ne, bop_add, bop_sub, Lb, Lg, Lt, Lts, Le, gv, gvs, tvs, wipeE]
      | cons w st =>
        rw [List.length_cons] at hm hp
        have hb := built_step (W := W) (n := n) (s := s) (splits := splits) (pos := pos) (left := left) (w := w) (st := st) (fnd := fnd) (x6 := x6) (x7 := x7) h0 hs (by omega) hl (by have := hw w List.mem_cons_self; omega) (by omega) (fun h => by
          by_cases z : left = 0
          · subst z; rw [FN_zero] at hp h; omega
          · omega)
        have ht := ne_nil (w :: st).reverse
        have ht2 : (!((w :: st).reverse).isEmpty) = true := by cases h : (w :: st).reverse with
          | nil => simp at h
          | cons => rfl
        rw [ht2] at ht
        unfold whlF
        have e1 : Lt ⟨callF W Γ (n + 2), W⟩ t_built_1 [.val (.int s), .val (.int splits), .val (.int pos), .val (.int left), .own (.lst ((w :: st).reverse.map wD)), .own (.lst (fnd.map wD)), x6, x7] = some (true, [.val (.int s), .val (.int splits), .val (.int pos), .val (.int left), .own (.lst ((w :: st).reverse.map wD)), .own (.lst (fnd.map wD)), x6, x7]) := by
          simp [t_built_1, ht, -List.map_reverse, -List.reverse_cons, entry, svs, ev.eq_1, ev.eq_2, ev.eq_3, ev.eq_4, ev.eq_5, ev.eq_6, ev.eq_7, ev.eq_8, ev.eq_9, ev.eq_10, ev.eq_11, ev.eq_12, ev.eq_13, ev.eq_14, ev.eq_15, ev.eq_16, ev.eq_17, ev.eq_18, ev.eq_19, ev.eq_20, ev.eq_21, ev.eq_22, ev.eq_23, ev.eq_24, ev.eq_25, ev.eq_26, sv.eq_1, sv.eq_2, sv.eq_3, sv.eq_4, sv.eq_5, sv.eq_6, sv.eq_7, sv.eq_10, sv.eq_11, sv.eq_12, sv.eq_13, evs, evp, evo, tv, itv_rng1, itv_rng2, itv_seq, itv_enum, items, callWith, arrange, rds, rd, after, stls, stl, immR, lite, D.imm, isTy, truth, leave, retv, keep, cop_lt, cop_gt, cop_le, cop_ge, cop_eq, cop_ne, bop_add, bop_sub, Lb, Lg, Lt, Lts, Le, gv, gvs, tvs, wipeE]
        rw [e1]
        dsimp only
        rw [show Lb ⟨callF W Γ (n + 2), W⟩ q_built_1 = svs ⟨callF W Γ (n + 2), W⟩ q_built_1 from rfl, hb]
        dsimp only
        rw [bld]
        by_cases c : pos < FN s st.length left
        · rw [if_pos c, if_pos c]
          obtain ⟨y2, y3, y6, y7, e⟩ := ih V pos left st (fnd ++ [w]) (.val (wD w)) (.val (.int (FN s st.length left : Nat))) (by omega) (by omega) c (by rw [List.length_append]; show f + (fnd.length + 1) ≤ 900; omega) hl fun x hx => hw x (List.mem_cons_of_mem _ hx)
          refine ⟨y2, y3, y6, y7, ?_⟩
          rw [List.append_assoc] at e
          exact e
        · rw [if_neg c, if_neg c]
          obtain ⟨l, rfl⟩ : ∃ l, left = l + 1 := ⟨left - 1, by
            by_cases z : left = 0
            · subst z; rw [FN_zero] at hp c; omega
            · omega⟩
          rw [FN_rec (by omega)] at hp
          obtain ⟨y2, y3, y6, y7, e⟩ := ih V (pos - FN s st.length (l + 1)) l (kids s w ++ st) fnd (.val (wD w)) (.val (.int (FN s st.length (l + 1) : Nat))) (by
            rw [List.length_append, kids_len, Nat.mul_add] at *
            omega) (by omega) (by
            rw [List.length_append, kids_len, Nat.add_comm s]
            omega) (by omega) (by omega) fun x hx => by
              rcases List.mem_append.mp hx with hx | hx
              · unfold kids at hx
                obtain ⟨i, _, rfl⟩ := List.mem_map.mp hx
                rw [List.length_append]
                have := hw w List.mem_cons_self
                show w.length + 1 + l ≤ 900
                omega
              · have := hw x (List.mem_cons_of_mem _ hx)
                omega
          exact ⟨y2, y3, y6, y7, e⟩
/-- the cut at a position -/
def bldC (s splits pos : Nat) : List Wd := bld s (s * splits + 1) pos splits [[]]
theorem built_eq {s splits pos : Nat} (h0 : 2 ≤ s) (hs : s ≤ 4) (hl : splits ≤ 200) (hp : pos < FN s 1 splits) (hW : 1000 < W) : callF W Γ (n + 3) "built" [.int s, .int splits, .int pos] = some (.new (wsL (bldC s splits pos)), none) := by
  have q0 : s * splits ≤ 800 := Nat.mul_le_mul hs hl
  obtain ⟨y2, y3, y6, y7, e⟩ := built_loop (W := W) (n := n) (s := s) (splits := splits) h0 hs (s * splits + 1) W pos splits [[]] [] .no .no (Nat.le_refl _) (by omega) hp (by show _ + 0 ≤ _; omega) (by omega) (fun w hw => by
    obtain rfl := List.mem_singleton.mp hw
    show 0 + splits ≤ 900
    omega)
  rw [callF_go g_built rfl]
  simp only [b_built]
  rw [svs_cons (ρ1 := [.val (.int s), .val (.int splits), .val (.int pos), .val (.int splits), .own (.lst [.tup []]), .own (.lst []), .no, .no]) (by
    simp [setAll, noAt, keep, D.imm, entry, svs, ev.eq_1, ev.eq_2, ev.eq_3, ev.eq_4, ev.eq_5, ev.eq_6, ev.eq_7, ev.eq_8, ev.eq_9, ev.eq_10, ev.eq_11, ev.eq_12, ev.eq_13, ev.eq_14, ev.eq_15, ev.eq_16, ev.eq_17, ev.eq_18, ev.eq_19, ev.eq_20, ev.eq_21, ev.eq_22, ev.eq_23, ev.eq_24, ev.eq_25, ev.eq_26, sv.eq_1, sv.eq_2, sv.eq_3, sv.eq_4, sv.eq_5, sv.eq_6, sv.eq_7, sv.eq_10, sv.eq_11, sv.eq_12, sv.eq_13, evs, evp, evo, tv, itv_rng1, itv_rng2, itv_seq, itv_enum, items, callWith, arrange, rds, rd, after, stls, stl, immR, lite, D.imm, isTy, truth, leave, retv, keep, cop_lt, cop_gt, cop_le, cop_ge, cop_eq, cop_ne, bop_add, bop_sub])]
  rw [svs_cons (ρ1 := [.val (.int s), .val (.int splits), y2, y3, .own (.lst []), .own (.lst ((bldC s splits pos).map wD)), y6, y7]) (by
    rw [sv_whl]
    exact e)]
  simp [wsL, entry, svs, ev.eq_1, ev.eq_2, ev.eq_3, ev.eq_4, ev.eq_5, ev.eq_6, ev.eq_7, ev.eq_8, ev.eq_9, ev.eq_10, ev.eq_11, ev.eq_12, ev.eq_13, ev.eq_14, ev.eq_15, ev.eq_16, ev.eq_17, ev.eq_18, ev.eq_19, ev.eq_20, ev.eq_21, ev.eq_22, ev.eq_23, ev.eq_24, ev.eq_25, ev.eq_26, sv.eq_1, sv.eq_2, sv.eq_3, sv.eq_4, sv.eq_5, sv.eq_6, sv.eq_7, sv.eq_10, sv.eq_11, sv.eq_12, sv.eq_13, evs, evp, evo, tv, itv_rng1, itv_rng2, itv_seq, itv_enum, items, callWith, arrange, rds, rd, after, stls, stl, immR, lite, D.imm, isTy, truth, leave, retv, keep, cop_lt, cop_gt, cop_le, cop_ge, cop_eq, cop_ne, bop_add, bop_sub]
theorem want_at_most_eq {w : Str} {i m : Int} (h : i ≤ m) : callF W Γ (n + 1) "want_at_most" [.str w, .int m, .int i] = some (.val .non, none) := by
  have h' : ¬ m < i := by omega
  rw [callF_go g_want_at_most rfl]; simp [b_want_at_most, h', entry, svs, ev.eq_1, ev.eq_2, ev.eq_3, ev.eq_4, ev.eq_5, ev.eq_6, ev.eq_7, ev.eq_8, ev.eq_9, ev.eq_10, ev.eq_11, ev.eq_12, ev.eq_13, ev.eq_14, ev.eq_15, ev.eq_16, ev.eq_17, ev.eq_18, ev.eq_19, ev.eq_20, ev.eq_21, ev.eq_22, ev.eq_23, ev.eq_24, ev.eq_25, ev.eq_26, sv.eq_1, sv.eq_2, sv.eq_3, sv.eq_4, sv.eq_5, sv.eq_6, sv.eq_7, sv.eq_10, sv.eq_11, sv.eq_12, sv.eq_13, sv_for, sv_whl, ev_comp, evs, evp, evo, tv, itv_rng1, itv_rng2, itv_seq, itv_enum, items, callWith, arrange, rds, rd, after, stls, stl, immR, lite, D.imm, isTy, truth, leave, retv, keep, cop_lt, cop_gt, cop_le, cop_ge, cop_eq, cop_ne, bop_add, bop_sub]
end
/-! all cuts, listed -/
section
variable {W n : Nat}
theorem listed_eq {s splits : Nat} (h0 : 2 ≤ s) (hs : s ≤ 4) (hl : splits ≤ 200) (hN : FN s 1 splits ≤ 1000000) (hW : 1000 < W) : callF W Γ (n + 4) "listed" [.int s, .int splits] = some (.new (.lst ((List.range (FN s 1 splits)).map fun i => wsL (bldC s splits i))), none) := by
  have f := forests_eq (W := W) (n := n + 1) (s := s) (m := 1) (k := splits) (by omega) (by omega) (by omega) (.inr (by omega))
  simp only [Int.natCast_one] at f
  obtain ⟨N, eN⟩ : ∃ N, N = FN s 1 splits := ⟨_, rfl⟩
  rw [← eN] at hN f ⊢
  have i1 : InR (N : Int) := inR (by omega) (by omega)
  have hc : ev ⟨callF W Γ (n + 3), W⟩ (.comp e_listed_1 (.nm 2) (.rng1 (.call "forests" (.cons (.var 0) (.cons (.cst (.int 1)) (.cons (.var 1) (.nil)))) [.inl 0, .inl 1, .inl 2])) (.yes) [2]) [.val (.int s), .val (.int splits), .no] = some (.new (.lst ((List.range N).map fun i => wsL (bldC s splits i))), [.val (.int s), .val (.int splits), .no]) := by
    refine comp_all (List.range N) (fun (i : Nat) => D.int (0 + (i : Int))) (fun i => [.val (.int s), .val (.int splits), .val (.int (0 + (i : Int)))]) (fun i => wsL (bldC s splits i)) (rs := [])
      (by simp [i1, f, rngN_map, entry, svs, ev.eq_1, ev.eq_2, ev.eq_3, ev.eq_4, ev.eq_5, ev.eq_6, ev.eq_7, ev.eq_8, ev.eq_9, ev.eq_10, ev.eq_11, ev.eq_12, ev.eq_13, ev.eq_14, ev.eq_15, ev.eq_16, ev.eq_17, ev.eq_18, ev.eq_19, ev.eq_20, ev.eq_21, ev.eq_22, ev.eq_23, ev.eq_24, ev.eq_25, ev.eq_26, sv.eq_1, sv.eq_2, sv.eq_3, sv.eq_4, sv.eq_5, sv.eq_6, sv.eq_7, sv.eq_10, sv.eq_11, sv.eq_12, sv.eq_13, evs, evp, evo, tv, itv_rng1, itv_rng2, itv_seq, itv_enum, items, callWith, arrange, rds, rd, after, stls, stl, immR, lite, D.imm, isTy, truth, leave, retv, keep, cop_lt, cop_gt, cop_le, cop_ge, cop_eq, cop_ne, bop_add, bop_sub]) rfl (by rw [List.length_range]; exact Nat.le_trans hN (by decide)) (fun _ => rfl) (fun _ => rfl) rfl (fun _ _ => by simp [entry, svs, ev.eq_1, ev.eq_2, ev.eq_3, ev.eq_4, ev.eq_5, ev.eq_6, ev.eq_7, ev.eq_8, ev.eq_9, ev.eq_10, ev.eq_11, ev.eq_12, ev.eq_13, ev.eq_14, ev.eq_15, ev.eq_16, ev.eq_17, ev.eq_18, ev.eq_19, ev.eq_20, ev.eq_21, ev.eq_22, ev.eq_23, ev.eq_24, ev.eq_25, ev.eq_26, sv.eq_1, sv.eq_2, sv.eq_3, sv.eq_4, sv.eq_5, sv.eq_6, sv.eq_7, sv.eq_10, sv.eq_11, sv.eq_12, sv.eq_13, evs, evp, evo, tv, itv_rng1, itv_rng2, itv_seq, itv_enum, items, callWith, arrange, rds, rd, after, stls, stl, immR, lite, D.imm, isTy, truth, leave, retv, keep, cop_lt, cop_gt, cop_le, cop_ge, cop_eq, cop_ne, bop_add, bop_sub, Lb, Lg, Lt, Lts, Le, gv, gvs, tvs, wipeE]) (fun i hi => ⟨.new (wsL (bldC s splits i)), by
        have b := built_eq (W := W) (n := n) (s := s) (splits := splits) (pos := i) h0 hs hl (by rw [← eN]; exact List.mem_range.mp hi) hW
        simp only [wsL] at b ⊢
        simp [e_listed_1, b, entry, svs, ev.eq_1, ev.eq_2, ev.eq_3, ev.eq_4, ev.eq_5, ev.eq_6, ev.eq_7, ev.eq_8, ev.eq_9, ev.eq_10, ev.eq_11, ev.eq_12, ev.eq_13, ev.eq_14, ev.eq_15, ev.eq_16, ev.eq_17, ev.eq_18, ev.eq_19, ev.eq_20, ev.eq_21, ev.eq_22, ev.eq_23, ev.eq_24, ev.eq_25, ev.eq_26, sv.eq_1, sv.eq_2, sv.eq_3, sv.eq_4, sv.eq_5, sv.eq_6, sv.eq_7, sv.eq_10, sv.eq_11, sv.eq_12, sv.eq_13, evs, evp, evo, tv, itv_rng1, itv_rng2, itv_seq, itv_enum, items, callWith, arrange, rds, rd, after, stls, stl, immR, lite, D.imm, isTy, truth, leave, retv, keep, cop_lt, cop_gt, cop_le, cop_ge, cop_eq, cop_ne, bop_add, bop_sub, Lb, Lg, Lt, Lts, Le, gv, gvs, tvs, wipeE], by simp [stl]⟩) (fun _ _ => rfl)
  rw [callF_go g_listed rfl]
  simp [b_listed, hc, entry, svs, ev.eq_1, ev.eq_2, ev.eq_3, ev.eq_4, ev.eq_5, ev.eq_6, ev.eq_7, ev.eq_8, ev.eq_9, ev.eq_10, ev.eq_11, ev.eq_12, ev.eq_13, ev.eq_14, ev.eq_15, ev.eq_16, ev.eq_17, ev.eq_18, ev.eq_19, ev.eq_20, ev.eq_21, ev.eq_22, ev.eq_23, ev.eq_24, ev.eq_25, ev.eq_26, sv.eq_1, sv.eq_2, sv.eq_3, sv.eq_4, sv.eq_5, sv.eq_6, sv.eq_7, sv.eq_10, sv.eq_11, sv.eq_12, sv.eq_13, evs, evp, evo, tv, itv_rng1, itv_rng2, itv_seq, itv_enum, items, callWith, arrange, rds, rd, after, stls, stl, immR, lite, D.imm, isTy, truth, leave, retv, keep, cop_lt, cop_gt, cop_le, cop_ge, cop_eq, cop_ne, bop_add, bop_sub]
theorem all_cuts_eq {s splits : Nat} (h0 : 2 ≤ s) (hs : s ≤ 4) (hl : splits ≤ 40) (hN : FN s 1 splits ≤ 600) (hW : 1000 < W) : callF W Γ (n + 5) "all_cuts" [.int s, .int splits] = some (.new (.lst ((List.range (FN s 1 splits)).map fun i => wsL (bldC s splits i))), none) := by
  have f := forests_eq (W := W) (n := n + 2) (s := s) (m := 1) (k := splits) (by omega) (by omega) (by omega) (.inr (by omega))
  have g := listed_eq (W := W) (n := n) (s := s) (splits := splits) h0 hs (by omega) (by omega) hW
  simp only [Int.natCast_one] at f
  have h := fun w => want_at_most_eq (W := W) (n := n + 3) (w := w) (i := (FN s 1 splits : Nat)) (m := 600) (by omega)
  rw [callF_go g_all_cuts rfl]
  simp [b_all_cuts, want_splits_eq h0 hs hl, f, g, h, entry, svs, ev.eq_1, ev.eq_2, ev.eq_3, ev.eq_4, ev.eq_5, ev.eq_6, ev.eq_7, ev.eq_8, ev.eq_9, ev.eq_10, ev.eq_11, ev.eq_12, ev.eq_13, ev.eq_14, ev.eq_15, ev.eq_16, ev.eq_17, ev.eq_18, ev.eq_19, ev.eq_20, ev.eq_21, ev.eq_22, ev.eq_23, ev.eq_24, ev.eq_25, ev.eq_26, sv.eq_1, sv.eq_2, sv.eq_3, sv.eq_4, sv.eq_5, sv.eq_6, sv.eq_7, sv.eq_10, sv.eq_11, sv.eq_12, sv.eq_13, sv_for, sv_whl, ev_comp, evs, evp, evo, tv, itv_rng1, itv_rng2, itv_seq, itv_enum, items, callWith, arrange, rds, rd, after, stls, stl, immR, lite, D.imm, isTy, truth, leave, retv, keep, cop_lt, cop_gt, cop_le, cop_ge, cop_eq, cop_ne, bop_add, bop_sub]
end
end G92

set_option linter.all false
set_option autoImplicit false
set_option Elab.async false
set_option maxRecDepth 100000
set_option maxHeartbeats 1000000
namespace G92
open PySem (Str)
open Z
/-! full cuts as the program sees them -/
section
variable {W n : Nat}
theorem len_ws (ws : List Wd) : bfv .len [.lst (ws.map wD)] = some (.val (.int ws.length)) := by
  show some (RV.val (.int ((ws.map wD).length : Nat))) = _
  rw [List.length_map]
theorem is_list_eq {ws : List Wd} : callF W Γ (n + 1) "is_list" [.lst (ws.map wD)] = some (.val (.bl true), none) := by
  rw [callF_go g_is_list rfl]; simp [b_is_list, entry, svs, ev.eq_1, ev.eq_2, ev.eq_3, ev.eq_4, ev.eq_5, ev.eq_6, ev.eq_7, ev.eq_8, ev.eq_9, ev.eq_10, ev.eq_11, ev.eq_12, ev.eq_13, ev.eq_14, ev.eq_15, ev.eq_16, ev.eq_17, ev.eq_18, ev.eq_19, ev.eq_20, ev.eq_21, ev.eq_22, ev.eq_23, ev.eq_24, ev.eq_25, ev.eq_26, sv.eq_1, sv.eq_2, sv.eq_3, sv.eq_4, sv.eq_5, sv.eq_6, sv.eq_7, sv.eq_10, sv.eq_11, sv.eq_12, sv.eq_13, sv_for, sv_whl, ev_comp, evs, evp, evo, tv, itv_rng1, itv_rng2, itv_seq, itv_enum, items, callWith, arrange, rds, rd, after, stls, stl, immR, lite, D.imm, isTy, truth, leave, retv, keep, cop_lt, cop_gt, cop_le, cop_ge, cop_eq, cop_ne, bop_add, bop_sub]
theorem all_true (k : Nat) : bfv .all [.lst (List.replicate k (D.bl true))] = some (.val (.bl true)) := by
  have h : ∀ k, blsOf (List.replicate k (D.bl true)) = some (List.replicate k true) := fun k => by
    induction k with
    | zero => rfl
    | succ k ih =>
      rw [List.replicate_succ]
      show (blsOf (List.replicate k (D.bl true))).map (true :: ·) = _
      rw [ih]
      rfl
  show (blsOf (List.replicate k (D.bl true))).map _ = _
  rw [h]
  have h2 : (List.replicate k true).all id = true := List.all_eq_true.mpr fun b hb => by rw [(List.mem_replicate.mp hb).2]; rfl
  show some (RV.val (.bl ((List.replicate k true).all id))) = _
  rw [h2]
theorem map_const {α : Type} (l : List α) (d : D) : l.map (fun _ => d) = List.replicate l.length d := by
  induction l with
  | nil => rfl
  | cons a l ih => rw [List.map_cons, List.length_cons, List.replicate_succ, ih]
theorem is_word_value_eq {s : Nat} {w : Wd} (hl : w.length ≤ 40) (hw : ∀ i ∈ w, i < s) : callF W Γ (n + 2) "is_word_value" [.int s, .tup (w.map nD)] = some (.val (.bl true), none) := by
  have hc : ev ⟨callF W Γ (n + 1), W⟩ (.comp e_is_word_value_1 (.nm 2) (.seq (.var 1)) .yes [2]) [.val (.int s), .val (.tup (w.map nD)), .no] = some (.new (.lst (w.map fun _ => D.bl true)), [.val (.int s), .val (.tup (w.map nD)), .no]) := by
    refine comp_all (C := ⟨callF W Γ (n + 1), W⟩) (e := e_is_word_value_1) (g := .nm 2) (it := .seq (.var 1)) (own := [2]) (ρ := [.val (.int s), .val (.tup (w.map nD)), .no]) (ρ1 := [.val (.int s), .val (.tup (w.map nD)), .no]) w nD (fun i => [.val (.int s), .val (.tup (w.map nD)), .val (nD i)]) (fun _ => D.bl true) (rs := [.val (.tup (w.map nD))])
      (by simp [entry, svs, ev.eq_1, ev.eq_2, ev.eq_3, ev.eq_4, ev.eq_5, ev.eq_6, ev.eq_7, ev.eq_8, ev.eq_9, ev.eq_10, ev.eq_11, ev.eq_12, ev.eq_13, ev.eq_14, ev.eq_15, ev.eq_16, ev.eq_17, ev.eq_18, ev.eq_19, ev.eq_20, ev.eq_21, ev.eq_22, ev.eq_23, ev.eq_24, ev.eq_25, ev.eq_26, sv.eq_1, sv.eq_2, sv.eq_3, sv.eq_4, sv.eq_5, sv.eq_6, sv.eq_7, sv.eq_10, sv.eq_11, sv.eq_12, sv.eq_13, evs, evp, evo, tv, itv_rng1, itv_rng2, itv_seq, itv_enum, items, callWith, arrange, rds, rd, after, stls, stl, immR, lite, D.imm, isTy, truth, leave, retv, keep, cop_lt, cop_gt, cop_le, cop_ge, cop_eq, cop_ne, bop_add, bop_sub]) rfl (Nat.le_trans hl (by decide)) (fun _ => rfl) (fun _ => rfl) rfl (fun _ _ => by simp [Lg, gv, wipeE]) (fun i hi => ⟨.val (.bl true), ?_, rfl⟩) (fun _ _ => rfl)
    have h1 : (0 : Int) ≤ i := by omega
    have h2 : (i : Int) < s := by have := hw i hi; omega
    simp [e_is_word_value_1, nD, is_integer_eq, h1, h2, entry, svs, ev.eq_1, ev.eq_2, ev.eq_3, ev.eq_4, ev.eq_5, ev.eq_6, ev.eq_7, ev.eq_8, ev.eq_9, ev.eq_10, ev.eq_11, ev.eq_12, ev.eq_13, ev.eq_14, ev.eq_15, ev.eq_16, ev.eq_17, ev.eq_18, ev.eq_19, ev.eq_20, ev.eq_21, ev.eq_22, ev.eq_23, ev.eq_24, ev.eq_25, ev.eq_26, sv.eq_1, sv.eq_2, sv.eq_3, sv.eq_4, sv.eq_5, sv.eq_6, sv.eq_7, sv.eq_10, sv.eq_11, sv.eq_12, sv.eq_13, evs, evp, evo, tv, itv_rng1, itv_rng2, itv_seq, itv_enum, items, callWith, arrange, rds, rd, after, stls, stl, immR, lite, D.imm, isTy, truth, leave, retv, keep, cop_lt, cop_gt, cop_le, cop_ge, cop_eq, cop_ne, bop_add, bop_sub, Lb, Lg, Lt, Lts, Le, gv, gvs, tvs, wipeE]
  have at_ := all_true w.length
  have hl' : ¬ (40 : Int) < w.length := by omega
  rw [callF_go g_is_word_value rfl]
  rw [map_const] at hc
  simp only [b_is_word_value]
  rw [svs_cons (ρ1 := [.val (.int s), .val (.tup (w.map nD)), .no]) (by simp [bfv, hl', entry, svs, ev.eq_1, ev.eq_2, ev.eq_3, ev.eq_4, ev.eq_5, ev.eq_6, ev.eq_7, ev.eq_8, ev.eq_9, ev.eq_10, ev.eq_11, ev.eq_12, ev.eq_13, ev.eq_14, ev.eq_15, ev.eq_16, ev.eq_17, ev.eq_18, ev.eq_19, ev.eq_20, ev.eq_21, ev.eq_22, ev.eq_23, ev.eq_24, ev.eq_25, ev.eq_26, sv.eq_1, sv.eq_2, sv.eq_3, sv.eq_4, sv.eq_5, sv.eq_6, sv.eq_7, sv.eq_10, sv.eq_11, sv.eq_12, sv.eq_13, evs, evp, evo, tv, itv_rng1, itv_rng2, itv_seq, itv_enum, items, callWith, arrange, rds, rd, after, stls, stl, immR, lite, D.imm, isTy, truth, leave, retv, keep, cop_lt, cop_gt, cop_le, cop_ge, cop_eq, cop_ne, bop_add, bop_sub])]
  simp [hc, at_, entry, svs, ev.eq_1, ev.eq_2, ev.eq_3, ev.eq_4, ev.eq_5, ev.eq_6, ev.eq_7, ev.eq_8, ev.eq_9, ev.eq_10, ev.eq_11, ev.eq_12, ev.eq_13, ev.eq_14, ev.eq_15, ev.eq_16, ev.eq_17, ev.eq_18, ev.eq_19, ev.eq_20, ev.eq_21, ev.eq_22, ev.eq_23, ev.eq_24, ev.eq_25, ev.eq_26, sv.eq_1, sv.eq_2, sv.eq_3, sv.eq_4, sv.eq_5, sv.eq_6, sv.eq_7, sv.eq_10, sv.eq_11, sv.eq_12, sv.eq_13, evs, evp, evo, tv, itv_rng1, itv_rng2, itv_seq, itv_enum, items, callWith, arrange, rds, rd, after, stls, stl, immR, lite, D.imm, isTy, truth, leave, retv, keep, cop_lt, cop_gt, cop_le, cop_ge, cop_eq, cop_ne, bop_add, bop_sub]
theorem are_words_value_eq {s : Nat} {ws : List Wd} (hn : ws.length ≤ 128) (hl : ∀ w ∈ ws, w.length ≤ 40 ∧ ∀ i ∈ w, i < s) : callF W Γ (n + 3) "are_words_value" [.int s, .lst (ws.map wD)] = some (.val (.bl true), none) := by
  have hc : ev ⟨callF W Γ (n + 2), W⟩ (.comp e_are_words_value_1 (.nm 2) (.seq (.var 1)) .yes [2]) [.val (.int s), .val (.lst (ws.map wD)), .no] = some (.new (.lst (ws.map fun _ => D.bl true)), [.val (.int s), .val (.lst (ws.map wD)), .no]) := by
    refine comp_all (C := ⟨callF W Γ (n + 2), W⟩) (e := e_are_words_value_1) (g := .nm 2) (it := .seq (.var 1)) (own := [2]) (ρ := [.val (.int s), .val (.lst (ws.map wD)), .no]) (ρ1 := [.val (.int s), .val (.lst (ws.map wD)), .no]) ws wD (fun w => [.val (.int s), .val (.lst (ws.map wD)), .val (wD w)]) (fun _ => D.bl true) (rs := [.val (.lst (ws.map wD))])
      (by simp [entry, svs, ev.eq_1, ev.eq_2, ev.eq_3, ev.eq_4, ev.eq_5, ev.eq_6, ev.eq_7, ev.eq_8, ev.eq_9, ev.eq_10, ev.eq_11, ev.eq_12, ev.eq_13, ev.eq_14, ev.eq_15, ev.eq_16, ev.eq_17, ev.eq_18, ev.eq_19, ev.eq_20, ev.eq_21, ev.eq_22, ev.eq_23, ev.eq_24, ev.eq_25, ev.eq_26, sv.eq_1, sv.eq_2, sv.eq_3, sv.eq_4, sv.eq_5, sv.eq_6, sv.eq_7, sv.eq_10, sv.eq_11, sv.eq_12, sv.eq_13, evs, evp, evo, tv, itv_rng1, itv_rng2, itv_seq, itv_enum, items, callWith, arrange, rds, rd, after, stls, stl, immR, lite, D.imm, isTy, truth, leave, retv, keep, cop_lt, cop_gt, cop_le, cop_ge, cop_eq, cop_ne, bop_add, bop_sub]) rfl (Nat.le_trans hn (by decide)) (fun _ => rfl) (fun _ => rfl) rfl (fun _ _ => by simp [Lg, gv, wipeE]) (fun w hw => ⟨.val (.bl true), ?_, rfl⟩) (fun _ _ => rfl)
    have e := is_word_value_eq (W := W) (n := n) (s := s) (w := w) (hl w hw).1 (hl w hw).2
    simp [e_are_words_value_1, wD, e, entry, svs, ev.eq_1, ev.eq_2, ev.eq_3, ev.eq_4, ev.eq_5, ev.eq_6, ev.eq_7, ev.eq_8, ev.eq_9, ev.eq_10, ev.eq_11, ev.eq_12, ev.eq_13, ev.eq_14, ev.eq_15, ev.eq_16, ev.eq_17, ev.eq_18, ev.eq_19, ev.eq_20, ev.eq_21, ev.eq_22, ev.eq_23, ev.eq_24, ev.eq_25, ev.eq_26, sv.eq_1, sv.eq_2, sv.eq_3, sv.eq_4, sv.eq_5, sv.eq_6, sv.eq_7, sv.eq_10, sv.eq_11, sv.eq_12, sv.eq_13, evs, evp, evo, tv, itv_rng1, itv_rng2, itv_seq, itv_enum, items, callWith, arrange, rds, rd, after, stls, stl, immR, lite, D.imm, isTy, truth, leave, retv, keep, cop_lt, cop_gt, cop_le, cop_ge, cop_eq, cop_ne, bop_add, bop_sub, Lb, Lg, Lt, Lts, Le, gv, gvs, tvs, wipeE]
  have at_ := all_true ws.length
  have hn' : (ws.length : Int) ≤ 128 := by omega
  rw [callF_go g_are_words_value rfl]
  rw [map_const] at hc
  have ln := len_ws ws
  simp [b_are_words_value, is_list_eq, ln, hn', hc, at_, entry, svs, ev.eq_1, ev.eq_2, ev.eq_3, ev.eq_4, ev.eq_5, ev.eq_6, ev.eq_7, ev.eq_8, ev.eq_9, ev.eq_10, ev.eq_11, ev.eq_12, ev.eq_13, ev.eq_14, ev.eq_15, ev.eq_16, ev.eq_17, ev.eq_18, ev.eq_19, ev.eq_20, ev.eq_21, ev.eq_22, ev.eq_23, ev.eq_24, ev.eq_25, ev.eq_26, sv.eq_1, sv.eq_2, sv.eq_3, sv.eq_4, sv.eq_5, sv.eq_6, sv.eq_7, sv.eq_10, sv.eq_11, sv.eq_12, sv.eq_13, evs, evp, evo, tv, itv_rng1, itv_rng2, itv_seq, itv_enum, items, callWith, arrange, rds, rd, after, stls, stl, immR, lite, D.imm, isTy, truth, leave, retv, keep, cop_lt, cop_gt, cop_le, cop_ge, cop_eq, cop_ne, bop_add, bop_sub]
theorem wD_fl (w : Wd) : (D.tup (w.map nD)).fl = true := by
  show D.flat 20 (.tup (w.map nD)) = true
  rw [D.flat, flats_nD]
theorem eq_wD (a b : Wd) : cop .Eq (.tup (a.map nD)) (.tup (b.map nD)) = some (decide (a = b)) := by
  have : cop .Eq (.tup (a.map nD)) (.tup (b.map nD)) = if ((D.tup (a.map nD)).fl && (D.tup (b.map nD)).fl) = true then some (D.eqv (wD a) (wD b)) else none := rfl
  rw [this, wD_fl, wD_fl, Bool.and_true, if_pos rfl, wD_enc.eq]
theorem begins_eq {a b : Wd} (h : LO a b) : callF W Γ (n + 1) "begins" [.tup (a.map nD), .tup (b.map nD)] = some (.val (.bl false), none) := by
  have c := cut_pre (b.map nD) a.length
  have e := eq_wD (b.take a.length) a
  have ne : ¬ b.take a.length = a := fun z => (h.ne (t := b.drop a.length)).1 (by
    have := List.take_append_drop a.length b
    rw [z] at this
    exact this)
  rw [decide_eq_false ne, List.map_take] at e
  rw [callF_go g_begins rfl]
  simp [b_begins, bfv, c, e, -List.map_take, entry, svs, ev.eq_1, ev.eq_2, ev.eq_3, ev.eq_4, ev.eq_5, ev.eq_6, ev.eq_7, ev.eq_8, ev.eq_9, ev.eq_10, ev.eq_11, ev.eq_12, ev.eq_13, ev.eq_14, ev.eq_15, ev.eq_16, ev.eq_17, ev.eq_18, ev.eq_19, ev.eq_20, ev.eq_21, ev.eq_22, ev.eq_23, ev.eq_24, ev.eq_25, ev.eq_26, sv.eq_1, sv.eq_2, sv.eq_3, sv.eq_4, sv.eq_5, sv.eq_6, sv.eq_7, sv.eq_10, sv.eq_11, sv.eq_12, sv.eq_13, evs, evp, evo, tv, itv_rng1, itv_rng2, itv_seq, itv_enum, items, callWith, arrange, rds, rd, after, stls, stl, immR, lite, D.imm, isTy, truth, leave, retv, keep, cop_lt, cop_gt, cop_le, cop_ge, cop_eq, cop_ne, bop_add, bop_sub]
theorem lt_wD (a b : Wd) : cop .Lt (.tup (a.map nD)) (.tup (b.map nD)) = some (wlt a b) := cop_lt_enc wD_enc (by simp [SHS]) a b (by intro h; cases h)
theorem zipD_map : ∀ (a b : List Wd), zipD (a.map wD) (b.map wD) = (a.zip b).map fun p => D.tup [wD p.1, wD p.2]
  | [], _ => by simp [zipD]
  | _ :: _, [] => by simp [zipD]
  | x :: a, y :: b => by rw [List.map_cons, List.map_cons, zipD, zipD_map a b]; rfl
theorem zip_LO : ∀ {c : List Wd}, c.Pairwise LO → ∀ p ∈ c.zip c.tail, LO p.1 p.2
  | [], _, p, hp => by simp at hp
  | [w], _, p, hp => by simp at hp
  | w :: x :: c, h, p, hp => by
    obtain ⟨h1, h2⟩ := List.pairwise_cons.mp h
    have hp : p = (w, x) ∨ p ∈ (x :: c).zip c := by simpa using hp
    rcases hp with rfl | hp
    · exact h1 x List.mem_cons_self
    · exact zip_LO h2 p hp
theorem is_cut_value_eq {s : Nat} {ws : List Wd} (hn : ws.length ≤ 128) (hl : ∀ w ∈ ws, w.length ≤ 40 ∧ ∀ i ∈ w, i < s) (hp : ws.Pairwise LO) : callF W Γ (n + 4) "is_cut_value" [.int s, .lst (ws.map wD)] = some (.val (.bl true), none) := by
  have c := cut_suf (ws.map wD) 1
  rw [← List.map_drop, Int.natCast_one, List.drop_one] at c
  have z := zipD_map ws ws.tail
  have hc : ev ⟨callF W Γ (n + 3), W⟩ (.comp e_is_cut_value_1 (.tup (.cons (.nm 2) (.cons (.nm 3) (.nil)))) (.zip (.var 1) (.slc (.var 1) (.one (.cst (.int 1))) (.no))) .yes [2, 3]) [.val (.int s), .val (.lst (ws.map wD)), .no, .no] = some (.new (.lst ((ws.zip ws.tail).map fun _ => D.bl true)), [.val (.int s), .val (.lst (ws.map wD)), .no, .no]) := by
    refine comp_all (C := ⟨callF W Γ (n + 3), W⟩) (e := e_is_cut_value_1) (g := .tup (.cons (.nm 2) (.cons (.nm 3) (.nil)))) (it := .zip (.var 1) (.slc (.var 1) (.one (.cst (.int 1))) (.no))) (own := [2, 3]) (ρ := [.val (.int s), .val (.lst (ws.map wD)), .no, .no]) (ρ1 := [.val (.int s), .val (.lst (ws.map wD)), .no, .no])
      (ws.zip ws.tail) (fun p => D.tup [wD p.1, wD p.2]) (fun p => [.val (.int s), .val (.lst (ws.map wD)), .val (wD p.1), .val (wD p.2)]) (fun _ => D.bl true) (rs := [.val (.lst (ws.map wD)), .new (.lst (ws.tail.map wD))])
      (by simp only [itv]; simp [c, z, -List.map_tail, entry, svs, ev.eq_1, ev.eq_2, ev.eq_3, ev.eq_4, ev.eq_5, ev.eq_6, ev.eq_7, ev.eq_8, ev.eq_9, ev.eq_10, ev.eq_11, ev.eq_12, ev.eq_13, ev.eq_14, ev.eq_15, ev.eq_16, ev.eq_17, ev.eq_18, ev.eq_19, ev.eq_20, ev.eq_21, ev.eq_22, ev.eq_23, ev.eq_24, ev.eq_25, ev.eq_26, sv.eq_1, sv.eq_2, sv.eq_3, sv.eq_4, sv.eq_5, sv.eq_6, sv.eq_7, sv.eq_10, sv.eq_11, sv.eq_12, sv.eq_13, evs, evp, evo, tv, itv_rng1, itv_rng2, itv_seq, itv_enum, items, callWith, arrange, rds, rd, after, stls, stl, immR, lite, D.imm, isTy, truth, leave, retv, keep, cop_lt, cop_gt, cop_le, cop_ge, cop_eq, cop_ne, bop_add, bop_sub]) rfl (by rw [List.length_zip]; exact Nat.le_trans (Nat.min_le_left _ _) (Nat.le_trans hn (by decide))) (fun _ => rfl) (fun _ => rfl) rfl (fun _ _ => by simp [Lg, gv, gvs, wipeE]) (fun p hpm => ⟨.val (.bl true), ?_, rfl⟩) (fun _ _ => rfl)
    have lo := zip_LO hp p hpm
    have e1 := lt_wD p.1 p.2
    rw [lo.lt] at e1
    have e2 := begins_eq (W := W) (n := n + 2) lo
    simp [e_is_cut_value_1, wD, e1, e2, entry, svs, ev.eq_1, ev.eq_2, ev.eq_3, ev.eq_4, ev.eq_5, ev.eq_6, ev.eq_7, ev.eq_8, ev.eq_9, ev.eq_10, ev.eq_11, ev.eq_12, ev.eq_13, ev.eq_14, ev.eq_15, ev.eq_16, ev.eq_17, ev.eq_18, ev.eq_19, ev.eq_20, ev.eq_21, ev.eq_22, ev.eq_23, ev.eq_24, ev.eq_25, ev.eq_26, sv.eq_1, sv.eq_2, sv.eq_3, sv.eq_4, sv.eq_5, sv.eq_6, sv.eq_7, sv.eq_10, sv.eq_11, sv.eq_12, sv.eq_13, evs, evp, evo, tv, itv_rng1, itv_rng2, itv_seq, itv_enum, items, callWith, arrange, rds, rd, after, stls, stl, immR, lite, D.imm, isTy, truth, leave, retv, keep, cop_lt, cop_gt, cop_le, cop_ge, cop_eq, cop_ne, bop_add, bop_sub, Lb, Lg, Lt, Lts, Le, gv, gvs, tvs, wipeE]
  have at_ := all_true (ws.zip ws.tail).length
  rw [callF_go g_is_cut_value rfl]
  rw [map_const] at hc
  simp only [b_is_cut_value]
  rw [svs_cons (ρ1 := [.val (.int s), .val (.lst (ws.map wD)), .no, .no]) (by simp [are_words_value_eq (W := W) (n := n) hn hl, entry, svs, ev.eq_1, ev.eq_2, ev.eq_3, ev.eq_4, ev.eq_5, ev.eq_6, ev.eq_7, ev.eq_8, ev.eq_9, ev.eq_10, ev.eq_11, ev.eq_12, ev.eq_13, ev.eq_14, ev.eq_15, ev.eq_16, ev.eq_17, ev.eq_18, ev.eq_19, ev.eq_20, ev.eq_21, ev.eq_22, ev.eq_23, ev.eq_24, ev.eq_25, ev.eq_26, sv.eq_1, sv.eq_2, sv.eq_3, sv.eq_4, sv.eq_5, sv.eq_6, sv.eq_7, sv.eq_10, sv.eq_11, sv.eq_12, sv.eq_13, evs, evp, evo, tv, itv_rng1, itv_rng2, itv_seq, itv_enum, items, callWith, arrange, rds, rd, after, stls, stl, immR, lite, D.imm, isTy, truth, leave, retv, keep, cop_lt, cop_gt, cop_le, cop_ge, cop_eq, cop_ne, bop_add, bop_sub])]
  simp [hc, at_, -List.length_zip, entry, svs, ev.eq_1, ev.eq_2, ev.eq_3, ev.eq_4, ev.eq_5, ev.eq_6, ev.eq_7, ev.eq_8, ev.eq_9, ev.eq_10, ev.eq_11, ev.eq_12, ev.eq_13, ev.eq_14, ev.eq_15, ev.eq_16, ev.eq_17, ev.eq_18, ev.eq_19, ev.eq_20, ev.eq_21, ev.eq_22, ev.eq_23, ev.eq_24, ev.eq_25, ev.eq_26, sv.eq_1, sv.eq_2, sv.eq_3, sv.eq_4, sv.eq_5, sv.eq_6, sv.eq_7, sv.eq_10, sv.eq_11, sv.eq_12, sv.eq_13, evs, evp, evo, tv, itv_rng1, itv_rng2, itv_seq, itv_enum, items, callWith, arrange, rds, rd, after, stls, stl, immR, lite, D.imm, isTy, truth, leave, retv, keep, cop_lt, cop_gt, cop_le, cop_ge, cop_eq, cop_ne, bop_add, bop_sub]
theorem times_eq {s m : Nat} (hs : s ≤ 4) (hm : m ≤ 1000) : callF W Γ (n + 1) "times" [.int s, .int m] = some (.val (.int (s ^ m : Nat)), none) := by
  have i1 : InR (m : Int) := inR (by omega) (by omega)
  have c1 : (s : Int).natAbs < 18446744073709551616 := by omega
  rw [callF_go g_times rfl]
  obtain ⟨ρF, e, x, rfl⟩ := forF_rng (lo := 0) (n := m) (g := Lg ⟨callF W Γ n, W⟩ (.nm 3)) (b := Lb ⟨callF W Γ n, W⟩ q_times_1)
    (ρ0 := [.val (.int s), .val (.int m), .val (.int 1), .no]) (fun i ρ => ∃ x, ρ = [.val (.int s), .val (.int m), .val (.int (s ^ i : Nat)), x]) ⟨_, by rw [Nat.pow_zero]; rfl⟩ fun i ρ hi ⟨x, e⟩ => by
      subst e
      refine ⟨[.val (.int s), .val (.int m), .val (.int (s ^ i : Nat)), .val (.int (0 + (i : Int)))], [.val (.int s), .val (.int m), .val (.int (s ^ (i + 1) : Nat)), .val (.int (0 + (i : Int)))], by simp [Lg, gv], ?_, _, rfl⟩
      have q : ((s ^ i : Nat) : Int) * s = (s ^ (i + 1) : Nat) := by rw [← Int.natCast_mul, Nat.pow_succ]
      simp [q_times_1, bop_mulR c1, q, -Int.natCast_pow, entry, svs, ev.eq_1, ev.eq_2, ev.eq_3, ev.eq_4, ev.eq_5, ev.eq_6, ev.eq_7, ev.eq_8, ev.eq_9, ev.eq_10, ev.eq_11, ev.eq_12, ev.eq_13, ev.eq_14, ev.eq_15, ev.eq_16, ev.eq_17, ev.eq_18, ev.eq_19, ev.eq_20, ev.eq_21, ev.eq_22, ev.eq_23, ev.eq_24, ev.eq_25, ev.eq_26, sv.eq_1, sv.eq_2, sv.eq_3, sv.eq_4, sv.eq_5, sv.eq_6, sv.eq_7, sv.eq_10, sv.eq_11, sv.eq_12, sv.eq_13, sv_for, sv_whl, ev_comp, evs, evp, evo, tv, itv_rng1, itv_rng2, itv_seq, itv_enum, items, callWith, arrange, rds, rd, after, stls, stl, immR, lite, D.imm, isTy, truth, leave, retv, keep, cop_lt, cop_gt, cop_le, cop_ge, cop_eq, cop_ne, bop_add, bop_sub, Lb, Lg, Lt, Lts, Le, gv, gvs, tvs, wipeE]
  simp only [b_times]
  rw [svs_cons (ρ1 := [.val (.int s), .val (.int m), .val (.int 1), .no]) (by simp [entry, svs, ev.eq_1, ev.eq_2, ev.eq_3, ev.eq_4, ev.eq_5, ev.eq_6, ev.eq_7, ev.eq_8, ev.eq_9, ev.eq_10, ev.eq_11, ev.eq_12, ev.eq_13, ev.eq_14, ev.eq_15, ev.eq_16, ev.eq_17, ev.eq_18, ev.eq_19, ev.eq_20, ev.eq_21, ev.eq_22, ev.eq_23, ev.eq_24, ev.eq_25, ev.eq_26, sv.eq_1, sv.eq_2, sv.eq_3, sv.eq_4, sv.eq_5, sv.eq_6, sv.eq_7, sv.eq_10, sv.eq_11, sv.eq_12, sv.eq_13, evs, evp, evo, tv, itv_rng1, itv_rng2, itv_seq, itv_enum, items, callWith, arrange, rds, rd, after, stls, stl, immR, lite, D.imm, isTy, truth, leave, retv, keep, cop_lt, cop_gt, cop_le, cop_ge, cop_eq, cop_ne, bop_add, bop_sub])]
  rw [svs_cons (ρ1 := [.val (.int s), .val (.int m), .val (.int (s ^ m : Nat)), x]) (by simp only [sv_for]; simp [i1, e, -Int.natCast_pow, entry, svs, ev.eq_1, ev.eq_2, ev.eq_3, ev.eq_4, ev.eq_5, ev.eq_6, ev.eq_7, ev.eq_8, ev.eq_9, ev.eq_10, ev.eq_11, ev.eq_12, ev.eq_13, ev.eq_14, ev.eq_15, ev.eq_16, ev.eq_17, ev.eq_18, ev.eq_19, ev.eq_20, ev.eq_21, ev.eq_22, ev.eq_23, ev.eq_24, ev.eq_25, ev.eq_26, sv.eq_1, sv.eq_2, sv.eq_3, sv.eq_4, sv.eq_5, sv.eq_6, sv.eq_7, sv.eq_10, sv.eq_11, sv.eq_12, sv.eq_13, evs, evp, evo, tv, itv_rng1, itv_rng2, itv_seq, itv_enum, items, callWith, arrange, rds, rd, after, stls, stl, immR, lite, D.imm, isTy, truth, leave, retv, keep, cop_lt, cop_gt, cop_le, cop_ge, cop_eq, cop_ne, bop_add, bop_sub])]
  simp [-Int.natCast_pow, entry, svs, ev.eq_1, ev.eq_2, ev.eq_3, ev.eq_4, ev.eq_5, ev.eq_6, ev.eq_7, ev.eq_8, ev.eq_9, ev.eq_10, ev.eq_11, ev.eq_12, ev.eq_13, ev.eq_14, ev.eq_15, ev.eq_16, ev.eq_17, ev.eq_18, ev.eq_19, ev.eq_20, ev.eq_21, ev.eq_22, ev.eq_23, ev.eq_24, ev.eq_25, ev.eq_26, sv.eq_1, sv.eq_2, sv.eq_3, sv.eq_4, sv.eq_5, sv.eq_6, sv.eq_7, sv.eq_10, sv.eq_11, sv.eq_12, sv.eq_13, evs, evp, evo, tv, itv_rng1, itv_rng2, itv_seq, itv_enum, items, callWith, arrange, rds, rd, after, stls, stl, immR, lite, D.imm, isTy, truth, leave, retv, keep, cop_lt, cop_gt, cop_le, cop_ge, cop_eq, cop_ne, bop_add, bop_sub]
theorem max_v (l : List Nat) {B : Nat} (hB : ∀ x ∈ l, x ≤ B) : ∃ M : Nat, M ≤ B ∧ (∀ x ∈ l, x ≤ M) ∧ bfv .max [.lst (D.int 0 :: l.map nD)] = some (.val (.int M)) := by
  have e : intsOf (D.int 0 :: l.map nD) = some ((0 : Int) :: l.map fun (n : Nat) => (n : Int)) := by
    show (intsOf (l.map nD)).map _ = _
    rw [intsOf_nD]
    rfl
  obtain ⟨h1, h2⟩ := mxI_ok (l.map fun (n : Nat) => (n : Int)) 0
  have p := h2 0 List.mem_cons_self
  refine ⟨(mxI 0 (l.map fun (n : Nat) => (n : Int))).toNat, ?_, fun x hx => ?_, ?_⟩
  · rcases List.mem_cons.mp h1 with h | h
    · rw [h]; exact Nat.zero_le _
    · obtain ⟨x, hx, e⟩ := List.mem_map.mp h
      rw [← e]
      exact hB x hx
  · have := h2 x (List.mem_cons_of_mem _ (List.mem_map.mpr ⟨x, hx, rfl⟩))
    omega
  · show (match intsOf (D.int 0 :: l.map nD) with
      | some (i :: l) => some (RV.val (.int (mxI i l)))
      | _ => none) = _
    rw [e, Int.toNat_of_nonneg p]
theorem share_of_eq {s k : Nat} {ws : List Wd} (h0 : 2 ≤ s) (hs : s ≤ 4) (hf : Full s k ws) (hk : k ≤ 40) : ∃ M : Nat, M ≤ 40 ∧ callF W Γ (n + 2) "share_of" [.int s, .lst (ws.map wD)] = some (.val (.tup [.int (s ^ M : Nat), .int M]), none) := by
  have hlen : ws.length ≤ 1000 := by
    rw [Full.len (by omega) hf]
    have : (s - 1) * k ≤ 3 * 40 := Nat.mul_le_mul (by omega) hk
    omega
  obtain ⟨M, hM, hx, e⟩ := max_v (ws.map List.length) (B := 40) (fun x hx => by
    obtain ⟨w, hw, rfl⟩ := List.mem_map.mp hx
    exact Nat.le_trans (Full.short (by omega) hf w hw) hk)
  have hx : ∀ w ∈ ws, w.length ≤ M := fun w hw => hx _ (List.mem_map.mpr ⟨w, hw, rfl⟩)
  refine ⟨M, hM, ?_⟩
  have c1 : ev ⟨callF W Γ (n + 1), W⟩ (.comp e_share_of_1 (.nm 3) (.seq (.var 1)) .yes [3]) [.val (.int s), .val (.lst (ws.map wD)), .no, .no] = some (.new (.lst ((ws.map List.length).map nD)), [.val (.int s), .val (.lst (ws.map wD)), .no, .no]) := by
    rw [List.map_map]
    exact comp_all (C := ⟨callF W Γ (n + 1), W⟩) (e := e_share_of_1) (g := .nm 3) (it := .seq (.var 1)) (own := [3]) (ρ := [.val (.int s), .val (.lst (ws.map wD)), .no, .no]) (ρ1 := [.val (.int s), .val (.lst (ws.map wD)), .no, .no]) ws wD (fun w => [.val (.int s), .val (.lst (ws.map wD)), .no, .val (wD w)]) (fun w => nD w.length) (rs := [.val (.lst (ws.map wD))])
      (by simp [entry, svs, ev.eq_1, ev.eq_2, ev.eq_3, ev.eq_4, ev.eq_5, ev.eq_6, ev.eq_7, ev.eq_8, ev.eq_9, ev.eq_10, ev.eq_11, ev.eq_12, ev.eq_13, ev.eq_14, ev.eq_15, ev.eq_16, ev.eq_17, ev.eq_18, ev.eq_19, ev.eq_20, ev.eq_21, ev.eq_22, ev.eq_23, ev.eq_24, ev.eq_25, ev.eq_26, sv.eq_1, sv.eq_2, sv.eq_3, sv.eq_4, sv.eq_5, sv.eq_6, sv.eq_7, sv.eq_10, sv.eq_11, sv.eq_12, sv.eq_13, evs, evp, evo, tv, itv_rng1, itv_rng2, itv_seq, itv_enum, items, callWith, arrange, rds, rd, after, stls, stl, immR, lite, D.imm, isTy, truth, leave, retv, keep, cop_lt, cop_gt, cop_le, cop_ge, cop_eq, cop_ne, bop_add, bop_sub]) rfl (Nat.le_trans hlen (by decide)) (fun _ => rfl) (fun _ => rfl) rfl (fun _ _ => by simp [Lg, gv, wipeE]) (fun w _ => ⟨.val (nD w.length), by simp [e_share_of_1, wD, bfv, nD, entry, svs, ev.eq_1, ev.eq_2, ev.eq_3, ev.eq_4, ev.eq_5, ev.eq_6, ev.eq_7, ev.eq_8, ev.eq_9, ev.eq_10, ev.eq_11, ev.eq_12, ev.eq_13, ev.eq_14, ev.eq_15, ev.eq_16, ev.eq_17, ev.eq_18, ev.eq_19, ev.eq_20, ev.eq_21, ev.eq_22, ev.eq_23, ev.eq_24, ev.eq_25, ev.eq_26, sv.eq_1, sv.eq_2, sv.eq_3, sv.eq_4, sv.eq_5, sv.eq_6, sv.eq_7, sv.eq_10, sv.eq_11, sv.eq_12, sv.eq_13, evs, evp, evo, tv, itv_rng1, itv_rng2, itv_seq, itv_enum, items, callWith, arrange, rds, rd, after, stls, stl, immR, lite, D.imm, isTy, truth, leave, retv, keep, cop_lt, cop_gt, cop_le, cop_ge, cop_eq, cop_ne, bop_add, bop_sub, Lb, Lg, Lt, Lts, Le, gv, gvs, tvs, wipeE], rfl⟩) (fun _ _ => rfl)
  have c2 : ev ⟨callF W Γ (n + 1), W⟩ (.comp e_share_of_2 (.nm 3) (.seq (.var 1)) .yes [3]) [.val (.int s), .val (.lst (ws.map wD)), .val (.int M), .no] = some (.new (.lst ((ws.map fun w => s ^ (M - w.length)).map nD)), [.val (.int s), .val (.lst (ws.map wD)), .val (.int M), .no]) := by
    rw [List.map_map]
    refine comp_all (C := ⟨callF W Γ (n + 1), W⟩) (e := e_share_of_2) (g := .nm 3) (it := .seq (.var 1)) (own := [3]) (ρ := [.val (.int s), .val (.lst (ws.map wD)), .val (.int M), .no]) (ρ1 := [.val (.int s), .val (.lst (ws.map wD)), .val (.int M), .no]) ws wD (fun w => [.val (.int s), .val (.lst (ws.map wD)), .val (.int M), .val (wD w)]) (fun w => nD (s ^ (M - w.length))) (rs := [.val (.lst (ws.map wD))])
      (by simp [entry, svs, ev.eq_1, ev.eq_2, ev.eq_3, ev.eq_4, ev.eq_5, ev.eq_6, ev.eq_7, ev.eq_8, ev.eq_9, ev.eq_10, ev.eq_11, ev.eq_12, ev.eq_13, ev.eq_14, ev.eq_15, ev.eq_16, ev.eq_17, ev.eq_18, ev.eq_19, ev.eq_20, ev.eq_21, ev.eq_22, ev.eq_23, ev.eq_24, ev.eq_25, ev.eq_26, sv.eq_1, sv.eq_2, sv.eq_3, sv.eq_4, sv.eq_5, sv.eq_6, sv.eq_7, sv.eq_10, sv.eq_11, sv.eq_12, sv.eq_13, evs, evp, evo, tv, itv_rng1, itv_rng2, itv_seq, itv_enum, items, callWith, arrange, rds, rd, after, stls, stl, immR, lite, D.imm, isTy, truth, leave, retv, keep, cop_lt, cop_gt, cop_le, cop_ge, cop_eq, cop_ne, bop_add, bop_sub]) rfl (Nat.le_trans hlen (by decide)) (fun _ => rfl) (fun _ => rfl) rfl (fun _ _ => by simp [Lg, gv, wipeE]) (fun w hw => ⟨.val (nD (s ^ (M - w.length))), ?_, rfl⟩) (fun _ _ => rfl)
    have t := times_eq (W := W) (n := n) (s := s) (m := M - w.length) hs (by omega)
    have q : (M : Int) - w.length = (M - w.length : Nat) := by have := hx w hw; omega
    simp [e_share_of_2, wD, bfv, q, t, nD, -Int.natCast_pow, entry, svs, ev.eq_1, ev.eq_2, ev.eq_3, ev.eq_4, ev.eq_5, ev.eq_6, ev.eq_7, ev.eq_8, ev.eq_9, ev.eq_10, ev.eq_11, ev.eq_12, ev.eq_13, ev.eq_14, ev.eq_15, ev.eq_16, ev.eq_17, ev.eq_18, ev.eq_19, ev.eq_20, ev.eq_21, ev.eq_22, ev.eq_23, ev.eq_24, ev.eq_25, ev.eq_26, sv.eq_1, sv.eq_2, sv.eq_3, sv.eq_4, sv.eq_5, sv.eq_6, sv.eq_7, sv.eq_10, sv.eq_11, sv.eq_12, sv.eq_13, evs, evp, evo, tv, itv_rng1, itv_rng2, itv_seq, itv_enum, items, callWith, arrange, rds, rd, after, stls, stl, immR, lite, D.imm, isTy, truth, leave, retv, keep, cop_lt, cop_gt, cop_le, cop_ge, cop_eq, cop_ne, bop_add, bop_sub, Lb, Lg, Lt, Lts, Le, gv, gvs, tvs, wipeE]
  have b := bop_lst (xs := [D.int 0]) (ys := (ws.map List.length).map nD) (by simp; omega)
  have sm := sum_nD (ws.map fun w => s ^ (M - w.length))
  rw [Full.sum (by omega) hf hx] at sm
  rw [callF_go g_share_of rfl]
  simp only [b_share_of]
  rw [svs_cons (ρ1 := [.val (.int s), .val (.lst (ws.map wD)), .val (.int M), .no]) (by
    simp only [List.singleton_append] at b
    simp [c1, b, e, -List.map_map, entry, svs, ev.eq_1, ev.eq_2, ev.eq_3, ev.eq_4, ev.eq_5, ev.eq_6, ev.eq_7, ev.eq_8, ev.eq_9, ev.eq_10, ev.eq_11, ev.eq_12, ev.eq_13, ev.eq_14, ev.eq_15, ev.eq_16, ev.eq_17, ev.eq_18, ev.eq_19, ev.eq_20, ev.eq_21, ev.eq_22, ev.eq_23, ev.eq_24, ev.eq_25, ev.eq_26, sv.eq_1, sv.eq_2, sv.eq_3, sv.eq_4, sv.eq_5, sv.eq_6, sv.eq_7, sv.eq_10, sv.eq_11, sv.eq_12, sv.eq_13, evs, evp, evo, tv, itv_rng1, itv_rng2, itv_seq, itv_enum, items, callWith, arrange, rds, rd, after, stls, stl, immR, lite, D.imm, isTy, truth, leave, retv, keep, cop_lt, cop_gt, cop_le, cop_ge, cop_eq, cop_ne, bop_add, bop_sub])]
  simp [c2, sm, -List.map_map, -Int.natCast_pow, entry, svs, ev.eq_1, ev.eq_2, ev.eq_3, ev.eq_4, ev.eq_5, ev.eq_6, ev.eq_7, ev.eq_8, ev.eq_9, ev.eq_10, ev.eq_11, ev.eq_12, ev.eq_13, ev.eq_14, ev.eq_15, ev.eq_16, ev.eq_17, ev.eq_18, ev.eq_19, ev.eq_20, ev.eq_21, ev.eq_22, ev.eq_23, ev.eq_24, ev.eq_25, ev.eq_26, sv.eq_1, sv.eq_2, sv.eq_3, sv.eq_4, sv.eq_5, sv.eq_6, sv.eq_7, sv.eq_10, sv.eq_11, sv.eq_12, sv.eq_13, evs, evp, evo, tv, itv_rng1, itv_rng2, itv_seq, itv_enum, items, callWith, arrange, rds, rd, after, stls, stl, immR, lite, D.imm, isTy, truth, leave, retv, keep, cop_lt, cop_gt, cop_le, cop_ge, cop_eq, cop_ne, bop_add, bop_sub]
theorem is_full_cut_eq {s k : Nat} {ws : List Wd} (h0 : 2 ≤ s) (hs : s ≤ 4) (hf : Full s k ws) (hk : k ≤ 40) : callF W Γ (n + 3) "is_full_cut" [.int s, .lst (ws.map wD)] = some (.val (.bl true), none) := by
  obtain ⟨M, hM, e⟩ := share_of_eq (W := W) (n := n) h0 hs hf hk
  have t := times_eq (W := W) (n := n + 1) (s := s) (m := M) hs (by omega)
  rw [callF_go g_is_full_cut rfl]
  simp only [b_is_full_cut]
  rw [svs_cons (ρ1 := [.val (.int s), .val (.lst (ws.map wD)), .val (.int (s ^ M : Nat)), .val (.int M)]) (by simp [e, gv, gvs, -Int.natCast_pow, entry, svs, ev.eq_1, ev.eq_2, ev.eq_3, ev.eq_4, ev.eq_5, ev.eq_6, ev.eq_7, ev.eq_8, ev.eq_9, ev.eq_10, ev.eq_11, ev.eq_12, ev.eq_13, ev.eq_14, ev.eq_15, ev.eq_16, ev.eq_17, ev.eq_18, ev.eq_19, ev.eq_20, ev.eq_21, ev.eq_22, ev.eq_23, ev.eq_24, ev.eq_25, ev.eq_26, sv.eq_1, sv.eq_2, sv.eq_3, sv.eq_4, sv.eq_5, sv.eq_6, sv.eq_7, sv.eq_10, sv.eq_11, sv.eq_12, sv.eq_13, evs, evp, evo, tv, itv_rng1, itv_rng2, itv_seq, itv_enum, items, callWith, arrange, rds, rd, after, stls, stl, immR, lite, D.imm, isTy, truth, leave, retv, keep, cop_lt, cop_gt, cop_le, cop_ge, cop_eq, cop_ne, bop_add, bop_sub])]
  simp [t, -Int.natCast_pow, entry, svs, ev.eq_1, ev.eq_2, ev.eq_3, ev.eq_4, ev.eq_5, ev.eq_6, ev.eq_7, ev.eq_8, ev.eq_9, ev.eq_10, ev.eq_11, ev.eq_12, ev.eq_13, ev.eq_14, ev.eq_15, ev.eq_16, ev.eq_17, ev.eq_18, ev.eq_19, ev.eq_20, ev.eq_21, ev.eq_22, ev.eq_23, ev.eq_24, ev.eq_25, ev.eq_26, sv.eq_1, sv.eq_2, sv.eq_3, sv.eq_4, sv.eq_5, sv.eq_6, sv.eq_7, sv.eq_10, sv.eq_11, sv.eq_12, sv.eq_13, evs, evp, evo, tv, itv_rng1, itv_rng2, itv_seq, itv_enum, items, callWith, arrange, rds, rd, after, stls, stl, immR, lite, D.imm, isTy, truth, leave, retv, keep, cop_lt, cop_gt, cop_le, cop_ge, cop_eq, cop_ne, bop_add, bop_sub]
end
end G92

set_option linter.all false
set_option autoImplicit false
set_option Elab.async false
set_option maxRecDepth 100000
set_option maxHeartbeats 1000000
namespace G92
open PySem (Str)
open Z
/-! positions -/
section
variable {W n : Nat}
theorem list_ws (ws : List Wd) : bfv .list [.lst (ws.map wD)] = some (.new (.lst (ws.map wD))) := rfl
theorem want_words_eq {s k : Nat} {ws : List Wd} (h0 : 2 ≤ s) (hs : s ≤ 4) (hf : Full s k ws) (hk : k ≤ 40) : callF W Γ (n + 5) "want_words" [.int s, .lst (ws.map wD)] = some (.val .non, none) := by
  have hlen : ws.length ≤ 128 := by
    rw [Full.len (by omega) hf]
    have : (s - 1) * k ≤ 3 * 40 := Nat.mul_le_mul (by omega) hk
    omega
  have e := is_cut_value_eq (W := W) (n := n) (s := s) (ws := ws) hlen (fun w hw => ⟨Nat.le_trans (Full.short (by omega) hf w hw) hk, Full.letters (by omega) hf w hw⟩) (Full.lo (by omega) hf)
  have e1 := want_size_eq (W := W) (n := n + 1) h0 hs
  have e2 := is_list_eq (W := W) (n := n + 3) (ws := ws)
  have e3 := list_ws ws
  rw [callF_go g_want_words rfl]
  simp [b_want_words, e, e1, e2, e3, entry, svs, ev.eq_1, ev.eq_2, ev.eq_3, ev.eq_4, ev.eq_5, ev.eq_6, ev.eq_7, ev.eq_8, ev.eq_9, ev.eq_10, ev.eq_11, ev.eq_12, ev.eq_13, ev.eq_14, ev.eq_15, ev.eq_16, ev.eq_17, ev.eq_18, ev.eq_19, ev.eq_20, ev.eq_21, ev.eq_22, ev.eq_23, ev.eq_24, ev.eq_25, ev.eq_26, sv.eq_1, sv.eq_2, sv.eq_3, sv.eq_4, sv.eq_5, sv.eq_6, sv.eq_7, sv.eq_10, sv.eq_11, sv.eq_12, sv.eq_13, sv_for, sv_whl, ev_comp, evs, evp, evo, tv, itv_rng1, itv_rng2, itv_seq, itv_enum, items, callWith, arrange, rds, rd, after, stls, stl, immR, lite, D.imm, isTy, truth, leave, retv, keep, cop_lt, cop_gt, cop_le, cop_ge, cop_eq, cop_ne, bop_add, bop_sub]
theorem count_eq {s k : Nat} {ws : List Wd} (h0 : 2 ≤ s) (hs : s ≤ 4) (hf : Full s k ws) : ((ws.length : Int) - 1) = ((s : Int) - 1) * (k : Int) := by
  rw [Full.len (by omega) hf]
  rw [Int.natCast_add, Int.natCast_mul, Int.natCast_sub (by omega)]
  simp
theorem div_eq {s k : Nat} (h0 : 2 ≤ s) (hs : s ≤ 4) : bop .FloorDiv (.int (((s : Int) - 1) * (k : Int))) (.int ((s : Int) - 1)) = some (.val (.int k)) := by
  rw [bop_div (by omega) (by omega), Int.mul_comm, Int.fdiv_eq_ediv_of_nonneg _ (by omega), Int.mul_ediv_cancel _ (by omega)]
theorem want_full_eq {s k : Nat} {ws : List Wd} (h0 : 2 ≤ s) (hs : s ≤ 4) (hf : Full s k ws) (hk : k ≤ 40) : callF W Γ (n + 6) "want_full" [.int s, .lst (ws.map wD)] = some (.new (.lst (ws.map wD)), none) := by
  have e1 := want_words_eq (W := W) (n := n) h0 hs hf hk
  have e2 := is_full_cut_eq (W := W) (n := n + 2) h0 hs hf hk
  have e3 := list_ws ws
  have e4 := len_ws ws
  have e5 := count_eq h0 hs hf
  have e6 := div_eq (k := k) h0 hs
  have e7 := fun w => want_at_most_eq (W := W) (n := n + 4) (w := w) (i := (k : Int)) (m := 40) (by omega)
  rw [callF_go g_want_full rfl]
  simp [b_want_full, e1, e2, e3, e4, e5, e6, e7, entry, svs, ev.eq_1, ev.eq_2, ev.eq_3, ev.eq_4, ev.eq_5, ev.eq_6, ev.eq_7, ev.eq_8, ev.eq_9, ev.eq_10, ev.eq_11, ev.eq_12, ev.eq_13, ev.eq_14, ev.eq_15, ev.eq_16, ev.eq_17, ev.eq_18, ev.eq_19, ev.eq_20, ev.eq_21, ev.eq_22, ev.eq_23, ev.eq_24, ev.eq_25, ev.eq_26, sv.eq_1, sv.eq_2, sv.eq_3, sv.eq_4, sv.eq_5, sv.eq_6, sv.eq_7, sv.eq_10, sv.eq_11, sv.eq_12, sv.eq_13, sv_for, sv_whl, ev_comp, evs, evp, evo, tv, itv_rng1, itv_rng2, itv_seq, itv_enum, items, callWith, arrange, rds, rd, after, stls, stl, immR, lite, D.imm, isTy, truth, leave, retv, keep, cop_lt, cop_gt, cop_le, cop_ge, cop_eq, cop_ne, bop_add, bop_sub]
theorem splits_of_eq {s k : Nat} {ws : List Wd} (h0 : 2 ≤ s) (hs : s ≤ 4) (hf : Full s k ws) (hk : k ≤ 40) : callF W Γ (n + 7) "splits_of" [.int s, .lst (ws.map wD)] = some (.val (.int k), none) := by
  have e1 := want_full_eq (W := W) (n := n) h0 hs hf hk
  have e4 := len_ws ws
  have e5 := count_eq h0 hs hf
  have e6 := div_eq (k := k) h0 hs
  rw [callF_go g_splits_of rfl]
  simp [b_splits_of, e1, e4, e5, e6, entry, svs, ev.eq_1, ev.eq_2, ev.eq_3, ev.eq_4, ev.eq_5, ev.eq_6, ev.eq_7, ev.eq_8, ev.eq_9, ev.eq_10, ev.eq_11, ev.eq_12, ev.eq_13, ev.eq_14, ev.eq_15, ev.eq_16, ev.eq_17, ev.eq_18, ev.eq_19, ev.eq_20, ev.eq_21, ev.eq_22, ev.eq_23, ev.eq_24, ev.eq_25, ev.eq_26, sv.eq_1, sv.eq_2, sv.eq_3, sv.eq_4, sv.eq_5, sv.eq_6, sv.eq_7, sv.eq_10, sv.eq_11, sv.eq_12, sv.eq_13, sv_for, sv_whl, ev_comp, evs, evp, evo, tv, itv_rng1, itv_rng2, itv_seq, itv_enum, items, callWith, arrange, rds, rd, after, stls, stl, immR, lite, D.imm, isTy, truth, leave, retv, keep, cop_lt, cop_gt, cop_le, cop_ge, cop_eq, cop_ne, bop_add, bop_sub]
/-! what is known: a dict of words -/
def wdD (v : D) (ks : List Wd) : List (D × D) := ks.map fun k => (wD k, v)
def addW (ks : List Wd) (c : Wd) : List Wd := if c ∈ ks then ks else ks ++ [c]
theorem keyed_wd (v : D) (ks : List Wd) : keyed (wdD v ks) = true := by
  unfold keyed wdD
  rw [List.all_map]
  exact List.all_eq_true.mpr fun c _ => nkT_wD c
theorem any_wd (v : D) (ks : List Wd) (c : Wd) : ((wdD v ks).any fun p => D.eqv p.1 (wD c)) = decide (c ∈ ks) := by
  induction ks with
  | nil => rfl
  | cons k ks ih =>
    show (D.eqv (wD k) (wD c) || (wdD v ks).any fun p => D.eqv p.1 (wD c)) = _
    rw [ih, wD_enc.eq]
    by_cases h : k = c
    · subst h; simp
    · have h' : ¬ c = k := fun e => h e.symm
      simp [h, h']
theorem dput_wd (v : D) (ks : List Wd) (c : Wd) : dput (wdD v ks) (wD c) v = wdD v (addW ks c) := by
  unfold dput
  rw [any_wd]
  unfold addW
  by_cases hc : c ∈ ks
  · rw [decide_eq_true hc, if_pos rfl, if_pos hc]
    unfold wdD
    rw [List.map_map]
    refine List.map_congr_left fun k _ => ?_
    dsimp only [Function.comp_apply]
    split <;> rfl
  · rw [decide_eq_false hc, if_neg (by decide), if_neg hc]
    unfold wdD
    rw [List.map_append]
    rfl
theorem addW_mem (x : Wd) : ∀ (cs ks : List Wd), x ∈ cs.foldl addW ks ↔ x ∈ ks ∨ x ∈ cs
  | [], ks => by simp
  | c :: cs, ks => by
    rw [List.foldl_cons, addW_mem x cs, List.mem_cons]
    unfold addW
    split
    · rename_i h
      constructor
      · rintro (h1 | h1)
        · exact .inl h1
        · exact .inr (.inr h1)
      · rintro (h1 | rfl | h1)
        · exact .inl h1
        · exact .inl h
        · exact .inr h1
    · simp only [List.mem_append, List.mem_singleton]
      exact or_assoc
theorem dget_wd (v : D) (ks : List Wd) (c : Wd) : (dget (wdD v ks) (wD c)).isSome = decide (c ∈ ks) := by
  induction ks with
  | nil => rfl
  | cons k ks ih =>
    show (if D.eqv (wD k) (wD c) then some v else dget (wdD v ks) (wD c)).isSome = _
    rw [wD_enc.eq]
    by_cases h : k = c
    · subst h; simp
    · have h' : ¬ c = k := fun e => h e.symm
      rw [decide_eq_false h]
      simp [h', ih]
theorem notin_wd (v : D) (ks : List Wd) (c : Wd) : cop .NotIn (.tup (c.map nD)) (.dic (wdD v ks)) = some (!decide (c ∈ ks)) := by
  have : cop .NotIn (.tup (c.map nD)) (.dic (wdD v ks)) = if (nkT (wD c)).isSome && keyed (wdD v ks) then some (!(dget (wdD v ks) (wD c)).isSome) else none := rfl
  rw [this, nkT_wD, keyed_wd, dget_wd]
  rfl
/-- what is known, of a cut -/
def kn (c : List Wd) : List Wd := c.foldl addW []
theorem kn_mem (c : List Wd) (x : Wd) : x ∈ kn c ↔ x ∈ c := by
  unfold kn
  rw [addW_mem]
  simp
theorem wkN_kn (s : Nat) (c : List Wd) : ∀ (f l : Nat) (st : List Wd), wkN s (kn c) f l st = wkN s c f l st
  | 0, _, _ => rfl
  | f + 1, l, [] => rfl
  | f + 1, l, w :: st => by
    rw [wkN, wkN, wkN_kn s c f, wkN_kn s c f]
    by_cases h : w ∈ c
    · rw [if_pos h, if_pos ((kn_mem c w).mpr h)]
    · rw [if_neg h, if_neg fun z => h ((kn_mem c w).mp z)]
theorem known_eq {a b c d y4 : Sl} {ws : List Wd} (hl : ws.length ≤ 1000) : ev ⟨callF W Γ n, W⟩ (.dcomp k_walked_1 v_walked_1 (.nm 6) (.seq (.var 1)) (.yes) [6]) [a, .val (.lst (ws.map wD)), c, d, y4, b, .no] = some (.new (.dic (wdD (.bl true) (kn ws))), [a, .val (.lst (ws.map wD)), c, d, y4, b, .no]) := by
  have go : ∀ (xs : List Wd) (acc : List Wd) (z : Sl), ∃ z', dcompF (ckOf [a, .val (.lst (ws.map wD)), c, d, y4, b, .no] [.val (.lst (ws.map wD))]) [6] (Lg ⟨callF W Γ n, W⟩ (.nm 6)) (Lts ⟨callF W Γ n, W⟩ .yes) (Le ⟨callF W Γ n, W⟩ k_walked_1) (Le ⟨callF W Γ n, W⟩ v_walked_1) (xs.map wD) (wdD (.bl true) acc) [a, .val (.lst (ws.map wD)), c, d, y4, b, z] =
      some (wdD (.bl true) (xs.foldl addW acc), [a, .val (.lst (ws.map wD)), c, d, y4, b, z']) := by
    intro xs
    induction xs with
    | nil => intro acc z; exact ⟨z, rfl⟩
    | cons x xs ih =>
      intro acc z
      obtain ⟨z', e⟩ := ih (addW acc x) (.val (wD x))
      refine ⟨z', ?_⟩
      rw [List.map_cons, dcompF]
      have g : Lg ⟨callF W Γ n, W⟩ (.nm 6) (wD x) (wipeE [a, .val (.lst (ws.map wD)), c, d, y4, b, z] [6]) = some [a, .val (.lst (ws.map wD)), c, d, y4, b, .val (wD x)] := by simp [Lg, gv, wipeE]
      rw [g]
      have t : Lts ⟨callF W Γ n, W⟩ .yes [a, .val (.lst (ws.map wD)), c, d, y4, b, .val (wD x)] = some (true, [a, .val (.lst (ws.map wD)), c, d, y4, b, .val (wD x)]) := by simp [Lts, tvs]
      dsimp only
      rw [t]
      dsimp only
      have k1 : Le ⟨callF W Γ n, W⟩ k_walked_1 [a, .val (.lst (ws.map wD)), c, d, y4, b, .val (wD x)] = some (.val (wD x), [a, .val (.lst (ws.map wD)), c, d, y4, b, .val (wD x)]) := by simp [k_walked_1, entry, svs, ev.eq_1, ev.eq_2, ev.eq_3, ev.eq_4, ev.eq_5, ev.eq_6, ev.eq_7, ev.eq_8, ev.eq_9, ev.eq_10, ev.eq_11, ev.eq_12, ev.eq_13, ev.eq_14, ev.eq_15, ev.eq_16, ev.eq_17, ev.eq_18, ev.eq_19, ev.eq_20, ev.eq_21, ev.eq_22, ev.eq_23, ev.eq_24, ev.eq_25, ev.eq_26, sv.eq_1, sv.eq_2, sv.eq_3, sv.eq_4, sv.eq_5, sv.eq_6, sv.eq_7, sv.eq_10, sv.eq_11, sv.eq_12, sv.eq_13, evs, evp, evo, tv, itv_rng1, itv_rng2, itv_seq, itv_enum, items, callWith, arrange, rds, rd, after, stls, stl, immR, lite, D.imm, isTy, truth, leave, retv, keep, cop_lt, cop_gt, cop_le, cop_ge, cop_eq, cop_ne, bop_add, bop_sub, Lb, Lg, Lt, Lts, Le, gv, gvs, tvs, wipeE]
      have k2 : Le ⟨callF W Γ n, W⟩ v_walked_1 [a, .val (.lst (ws.map wD)), c, d, y4, b, .val (wD x)] = some (.val (.bl true), [a, .val (.lst (ws.map wD)), c, d, y4, b, .val (wD x)]) := by simp [v_walked_1, entry, svs, ev.eq_1, ev.eq_2, ev.eq_3, ev.eq_4, ev.eq_5, ev.eq_6, ev.eq_7, ev.eq_8, ev.eq_9, ev.eq_10, ev.eq_11, ev.eq_12, ev.eq_13, ev.eq_14, ev.eq_15, ev.eq_16, ev.eq_17, ev.eq_18, ev.eq_19, ev.eq_20, ev.eq_21, ev.eq_22, ev.eq_23, ev.eq_24, ev.eq_25, ev.eq_26, sv.eq_1, sv.eq_2, sv.eq_3, sv.eq_4, sv.eq_5, sv.eq_6, sv.eq_7, sv.eq_10, sv.eq_11, sv.eq_12, sv.eq_13, evs, evp, evo, tv, itv_rng1, itv_rng2, itv_seq, itv_enum, items, callWith, arrange, rds, rd, after, stls, stl, immR, lite, D.imm, isTy, truth, leave, retv, keep, cop_lt, cop_gt, cop_le, cop_ge, cop_eq, cop_ne, bop_add, bop_sub, Lb, Lg, Lt, Lts, Le, gv, gvs, tvs, wipeE]
      rw [k1]
      dsimp only
      rw [k2]
      dsimp only
      rw [nkT_wD, dput_wd]
      exact e
  obtain ⟨z', e⟩ := go ws [] .no
  have e' := e
  rw [ev_dcomp]
  simp only [itv_seq]
  have e0 : ev ⟨callF W Γ n, W⟩ (.var 1) [a, .val (.lst (ws.map wD)), c, d, y4, b, .no] = some (.val (.lst (ws.map wD)), [a, .val (.lst (ws.map wD)), c, d, y4, b, .no]) := by simp [entry, svs, ev.eq_1, ev.eq_2, ev.eq_3, ev.eq_4, ev.eq_5, ev.eq_6, ev.eq_7, ev.eq_8, ev.eq_9, ev.eq_10, ev.eq_11, ev.eq_12, ev.eq_13, ev.eq_14, ev.eq_15, ev.eq_16, ev.eq_17, ev.eq_18, ev.eq_19, ev.eq_20, ev.eq_21, ev.eq_22, ev.eq_23, ev.eq_24, ev.eq_25, ev.eq_26, sv.eq_1, sv.eq_2, sv.eq_3, sv.eq_4, sv.eq_5, sv.eq_6, sv.eq_7, sv.eq_10, sv.eq_11, sv.eq_12, sv.eq_13, evs, evp, evo, tv, itv_rng1, itv_rng2, itv_seq, itv_enum, items, callWith, arrange, rds, rd, after, stls, stl, immR, lite, D.imm, isTy, truth, leave, retv, keep, cop_lt, cop_gt, cop_le, cop_ge, cop_eq, cop_ne, bop_add, bop_sub]
  rw [e0]
  have i0 : items [a, .val (.lst (ws.map wD)), c, d, y4, b, .no] (.val (.lst (ws.map wD))) = some (ws.map wD) := rfl
  dsimp only
  rw [i0]
  dsimp only
  have h1 : (noCell [a, .val (.lst (ws.map wD)), c, d, y4, b, .no] [6] && decide ((ws.map wD).length ≤ LL)) = true := by
    rw [List.length_map, decide_eq_true (Nat.le_trans hl (by decide))]
    rfl
  rw [if_pos h1]
  have e2 : wdD (.bl true) [] = [] := rfl
  rw [e2] at e'
  rw [e']
  rfl
theorem walked_step {s left fnd : Nat} {a : Sl} {w : Wd} {st kn : List Wd} {v : D} {x6 : Sl} (h0 : 2 ≤ s) (hs : s ≤ 4) (hst : st.length ≤ 900) (hl : left ≤ 900) (hw : w.length < 1000000) (hp : w ∉ kn → 1 ≤ left) :
    svs ⟨callF W Γ (n + 2), W⟩ q_walked_2 [.val (.int s), a, .val (.int left), .own (.lst ((w :: st).reverse.map wD)), .val (.int fnd), .own (.dic (wdD v kn)), x6] = some (.nxt,
      if w ∈ kn then [.val (.int s), a, .val (.int left), .own (.lst (st.reverse.map wD)), .val (.int fnd), .own (.dic (wdD v kn)), .val (wD w)]
      else [.val (.int s), a, .val (.int (left - 1 : Nat)), .own (.lst ((kids s w ++ st).reverse.map wD)), .val (.int (fnd + FN s st.length left : Nat)), .own (.dic (wdD v kn)), .val (wD w)]) := by
  have f := forests_eq (W := W) (n := n) (s := s) (m := st.length) (k := left) (by omega) (by omega) (by omega) (by
    by_cases h : left = 0
    · exact .inl h
    · right
      have : 0 < s * left := Nat.mul_pos (by omega) (by omega)
      omega)
  have e1 : ((w :: st).reverse.map wD).getLast? = some (wD w) := by simp
  have e2 : ((w :: st).reverse.map wD).dropLast = st.reverse.map wD := by simp
  have ni := notin_wd v kn w
  simp only [q_walked_2]
  rw [svs_cons (ρ1 := [.val (.int s), a, .val (.int left), .own (.lst (st.reverse.map wD)), .val (.int fnd), .own (.dic (wdD v kn)), .val (wD w)]) (by
    simp only [List.map_reverse] at e1 e2
    simp [Sl.cell, Sl.to, mmv, e1, e2, -List.getLast?_reverse, -List.dropLast_reverse, -List.reverse_cons, -List.map_cons, entry, svs, ev.eq_1, ev.eq_2, ev.eq_3, ev.eq_4, ev.eq_5, ev.eq_6, ev.eq_7, ev.eq_8, ev.eq_9, ev.eq_10, ev.eq_11, ev.eq_12, ev.eq_13, ev.eq_14, ev.eq_15, ev.eq_16, ev.eq_17, ev.eq_18, ev.eq_19, ev.eq_20, ev.eq_21, ev.eq_22, ev.eq_23, ev.eq_24, ev.eq_25, ev.eq_26, sv.eq_1, sv.eq_2, sv.eq_3, sv.eq_4, sv.eq_5, sv.eq_6, sv.eq_7, sv.eq_10, sv.eq_11, sv.eq_12, sv.eq_13, evs, evp, evo, tv, itv_rng1, itv_rng2, itv_seq, itv_enum, items, callWith, arrange, rds, rd, after, stls, stl, immR, lite, D.imm, isTy, truth, leave, retv, keep, cop_lt, cop_gt, cop_le, cop_ge, cop_eq, cop_ne, bop_add, bop_sub])]
  by_cases c : w ∈ kn
  · rw [if_pos c]
    rw [decide_eq_true c] at ni
    simp [wD, ni, entry, svs, ev.eq_1, ev.eq_2, ev.eq_3, ev.eq_4, ev.eq_5, ev.eq_6, ev.eq_7, ev.eq_8, ev.eq_9, ev.eq_10, ev.eq_11, ev.eq_12, ev.eq_13, ev.eq_14, ev.eq_15, ev.eq_16, ev.eq_17, ev.eq_18, ev.eq_19, ev.eq_20, ev.eq_21, ev.eq_22, ev.eq_23, ev.eq_24, ev.eq_25, ev.eq_26, sv.eq_1, sv.eq_2, sv.eq_3, sv.eq_4, sv.eq_5, sv.eq_6, sv.eq_7, sv.eq_10, sv.eq_11, sv.eq_12, sv.eq_13, evs, evp, evo, tv, itv_rng1, itv_rng2, itv_seq, itv_enum, items, callWith, arrange, rds, rd, after, stls, stl, immR, lite, D.imm, isTy, truth, leave, retv, keep, cop_lt, cop_gt, cop_le, cop_ge, cop_eq, cop_ne, bop_add, bop_sub]
  · have hl' := hp c
    have sp := split_of_eq (W := W) (n := n + 1) (s := s) (w := w) hs hw
    have a2 : (left : Int) - 1 = (left - 1 : Nat) := by omega
    have hL : (16000000 : Nat) = LL := rfl
    have b1 : st.length ≤ LL := by omega
    have b2 : (kids s w).length ≤ LL := by rw [kids_len]; omega
    have b3 : st.length + (kids s w).length ≤ LL := by rw [kids_len]; omega
    rw [if_neg c]
    rw [decide_eq_false c] at ni
    simp [wD, ni, f, a2, sp, bfv, Sl.cell, Sl.to, mmv, b1, b2, b3, entry, svs, ev.eq_1, ev.eq_2, ev.eq_3, ev.eq_4, ev.eq_5, ev.eq_6, ev.eq_7, ev.eq_8, ev.eq_9, ev.eq_10, ev.eq_11, ev.eq_12, ev.eq_13, ev.eq_14, ev.eq_15, ev.eq_16, ev.eq_17, ev.eq_18, ev.eq_19, ev.eq_20, ev.eq_21, ev.eq_22, ev.eq_23, ev.eq_24, ev.eq_25, ev.eq_26, sv.eq_1, sv.eq_2, sv.eq_3, sv.eq_4, sv.eq_5, sv.eq_6, sv.eq_7, sv.eq_10, sv.eq_11, sv.eq_12, sv.eq_13, evs, evp, evo, tv, itv_rng1, itv_rng2, itv_seq, itv_enum, items, callWith, arrange, rds, rd, after, stls, stl, immR, lite, D.imm, isTy, truth, leave, retv, keep, cop_lt, cop_gt, cop_le, cop_ge, cop_eq, cop_ne, bop_add, bop_sub]
theorem walked_loop {s : Nat} {a : Sl} {kn : List Wd} {v : D} (h0 : 2 ≤ s) (hs : s ≤ 4) (pf : PF kn) {st out : List Wd} {l : Nat} (h : Fc s st l out) : (∀ x ∈ out, x ∈ kn) → ∀ (f V fnd : Nat) (x6 : Sl), s * l + st.length ≤ f → f < V → f ≤ 900 → l ≤ 900 → (∀ w ∈ st, w.length + l ≤ 900) →
    ∃ y2 y6 : Sl, whlF (Lt ⟨callF W Γ (n + 2), W⟩ t_walked_2) (Lb ⟨callF W Γ (n + 2), W⟩ q_walked_2) V [.val (.int s), a, .val (.int l), .own (.lst (st.reverse.map wD)), .val (.int fnd), .own (.dic (wdD v kn)), x6] =
      some (.nxt, [.val (.int s), a, y2, .own (.lst []), .val (.int (fnd + wkN s kn f l st : Nat)), .own (.dic (wdD v kn)), y6]) := by
  have test : ∀ (w : Wd) (st : List Wd) (l fnd : Nat) (x6 : Sl), Lt ⟨callF W Γ (n + 2), W⟩ t_walked_2 [.val (.int s), a, .val (.int l), .own (.lst ((w :: st).reverse.map wD)), .val (.int fnd), .own (.dic (wdD v kn)), x6] = some (true, [.val (.int s), a, .val (.int l), .own (.lst ((w :: st).reverse.map wD)), .val (.int fnd), .own (.dic (wdD v kn)), x6]) := fun w st l fnd x6 => by
    have ht := ne_nil (w :: st).reverse
    have ht2 : (!((w :: st).reverse).isEmpty) = true := by cases h : (w :: st).reverse with
      | nil => simp at h
      | cons => rfl
    rw [ht2] at ht
    simp [t_walked_2, ht, -List.map_reverse, -List.reverse_cons, entry, svs, ev.eq_1, ev.eq_2, ev.eq_3, ev.eq_4, ev.eq_5, ev.eq_6, ev.eq_7, ev.eq_8, ev.eq_9, ev.eq_10, ev.eq_11, ev.eq_12, ev.eq_13, ev.eq_14, ev.eq_15, ev.eq_16, ev.eq_17, ev.eq_18, ev.eq_19, ev.eq_20, ev.eq_21, ev.eq_22, ev.eq_23, ev.eq_24, ev.eq_25, ev.eq_26, sv.eq_1, sv.eq_2, sv.eq_3, sv.eq_4, sv.eq_5, sv.eq_6, sv.eq_7, sv.eq_10, sv.eq_11, sv.eq_12, sv.eq_13, evs, evp, evo, tv, itv_rng1, itv_rng2, itv_seq, itv_enum, items, callWith, arrange, rds, rd, after, stls, stl, immR, lite, D.imm, isTy, truth, leave, retv, keep, cop_lt, cop_gt, cop_le, cop_ge, cop_eq, cop_ne, bop_add, bop_sub, Lb, Lg, Lt, Lts, Le, gv, gvs, tvs, wipeE]
  induction h with
  | nil =>
    intro _ f V fnd x6 hf hV hf9 hl hw
    obtain ⟨V, rfl⟩ : ∃ U, V = U + 1 := ⟨V - 1, by omega⟩
    refine ⟨.val (.int 0), x6, ?_⟩
    have e0 : wkN s kn f 0 [] = 0 := by cases f <;> rfl
    have ht := ne_nil []
    simp only [List.map_nil] at ht
    rw [e0]
    simp [whlF, t_walked_2, ht, entry, svs, ev.eq_1, ev.eq_2, ev.eq_3, ev.eq_4, ev.eq_5, ev.eq_6, ev.eq_7, ev.eq_8, ev.eq_9, ev.eq_10, ev.eq_11, ev.eq_12, ev.eq_13, ev.eq_14, ev.eq_15, ev.eq_16, ev.eq_17, ev.eq_18, ev.eq_19, ev.eq_20, ev.eq_21, ev.eq_22, ev.eq_23, ev.eq_24, ev.eq_25, ev.eq_26, sv.eq_1, sv.eq_2, sv.eq_3, sv.eq_4, sv.eq_5, sv.eq_6, sv.eq_7, sv.eq_10, sv.eq_11, sv.eq_12, sv.eq_13, evs, evp, evo, tv, itv_rng1, itv_rng2, itv_seq, itv_enum, items, callWith, arrange, rds, rd, after, stls, stl, immR, lite, D.imm, isTy, truth, leave, retv, keep, cop_lt, cop_gt, cop_le, cop_ge, cop_eq, cop_ne, bop_add, bop_sub, Lb, Lg, Lt, Lts, Le, gv, gvs, tvs, wipeE]
  | @leaf w st out l h ih =>
    intro hk f V fnd x6 hf hV hf9 hl hw
    obtain ⟨V, rfl⟩ : ∃ U, V = U + 1 := ⟨V - 1, by omega⟩
    rw [List.length_cons] at hf
    obtain ⟨f, rfl⟩ : ∃ g, f = g + 1 := ⟨f - 1, by omega⟩
    have hwk := hk w List.mem_cons_self
    obtain ⟨y2, y6, e⟩ := ih (fun x hx => hk x (List.mem_cons_of_mem _ hx)) f V fnd (.val (wD w)) (by omega) (by omega) (by omega) hl fun x hx => hw x (List.mem_cons_of_mem _ hx)
    refine ⟨y2, y6, ?_⟩
    have b := walked_step (W := W) (n := n) (s := s) (left := l) (fnd := fnd) (a := a) (w := w) (st := st) (kn := kn) (v := v) (x6 := x6) h0 hs (by omega) hl (by have := hw w List.mem_cons_self; omega) (fun z => absurd hwk z)
    rw [if_pos hwk] at b
    unfold whlF
    rw [test]
    dsimp only
    rw [show Lb ⟨callF W Γ (n + 2), W⟩ q_walked_2 = svs ⟨callF W Γ (n + 2), W⟩ q_walked_2 from rfl, b]
    dsimp only
    rw [wkN, if_pos hwk]
    exact e
  | @split w st out l h ih =>
    intro hk f V fnd x6 hf hV hf9 hl hw
    obtain ⟨V, rfl⟩ : ∃ U, V = U + 1 := ⟨V - 1, by omega⟩
    rw [List.length_cons, Nat.mul_add] at hf
    obtain ⟨f, rfl⟩ : ∃ g, f = g + 1 := ⟨f - 1, by omega⟩
    have hwk : w ∉ kn := fun z => by
      obtain ⟨r, e⟩ := kids_cons (show 1 ≤ s by omega) w
      obtain ⟨x, hx⟩ := Fc.ext (show 1 ≤ s by omega) h (w ++ [0]) (by rw [e]; exact List.mem_append_left _ List.mem_cons_self)
      have := hk _ hx
      rw [List.append_assoc] at this
      have := pf w _ z this
      cases this
    obtain ⟨y2, y6, e⟩ := ih hk f V (fnd + FN s st.length (l + 1)) (.val (wD w)) (by rw [List.length_append, kids_len]; omega) (by omega) (by omega) (by omega) (fun x hx => by
      rcases List.mem_append.mp hx with hx | hx
      · obtain ⟨i, _, rfl⟩ := kids_mem hx
        rw [List.length_append]
        have := hw w List.mem_cons_self
        show w.length + 1 + l ≤ 900
        omega
      · have := hw x (List.mem_cons_of_mem _ hx)
        omega)
    refine ⟨y2, y6, ?_⟩
    have b := walked_step (W := W) (n := n) (s := s) (left := l + 1) (fnd := fnd) (a := a) (w := w) (st := st) (kn := kn) (v := v) (x6 := x6) h0 hs (by omega) hl (by have := hw w List.mem_cons_self; omega) (fun _ => by omega)
    rw [if_neg hwk] at b
    unfold whlF
    rw [test]
    dsimp only
    rw [show Lb ⟨callF W Γ (n + 2), W⟩ q_walked_2 = svs ⟨callF W Γ (n + 2), W⟩ q_walked_2 from rfl, b]
    dsimp only
    rw [wkN, if_neg hwk, ← Nat.add_assoc]
    exact e
def posC (s k : Nat) (c : List Wd) : Nat := wkN s c (s * k + 1) k [[]]
theorem walked_eq {s k : Nat} {ws : List Wd} (h0 : 2 ≤ s) (hs : s ≤ 4) (hf : Full s k ws) (hk : k ≤ 40) (hW : 1000 < W) : callF W Γ (n + 3) "walked" [.int s, .lst (ws.map wD)] = some (.val (.int (posC s k ws : Nat)), none) := by
  have q0 : s * k ≤ 4 * 40 := Nat.mul_le_mul hs hk
  have hlen : ws.length ≤ 1000 := by
    rw [Full.len (by omega) hf]
    have : (s - 1) * k ≤ 3 * 40 := Nat.mul_le_mul (by omega) hk
    omega
  have pf : PF (kn ws) := fun w x h1 h2 => pf_of (Full.lo (by omega) hf) w x ((kn_mem ws w).mp h1) ((kn_mem ws _).mp h2)
  obtain ⟨y2, y6, e⟩ := walked_loop (W := W) (n := n) (s := s) (a := .val (.lst (ws.map wD))) (kn := kn ws) (v := .bl true) h0 hs pf hf.fc (fun x hx => (kn_mem ws x).mpr hx) (s * k + 1) W 0 .no (Nat.le_refl _) (by omega) (by omega) (by omega) (fun w hw => by
    obtain rfl := List.mem_singleton.mp hw
    show 0 + k ≤ 900
    omega)
  rw [wkN_kn, Nat.zero_add] at e
  have e4 := len_ws ws
  have e5 := count_eq h0 hs hf
  have e6 := div_eq (k := k) h0 hs
  have kd := known_eq (W := W) (n := n + 2) (a := .val (.int s)) (b := .no) (c := .val (.int k)) (d := .own (.lst [.tup []])) (y4 := .val (.int 0)) (ws := ws) hlen
  rw [callF_go g_walked rfl]
  simp only [b_walked]
  rw [svs_cons (ρ1 := [.val (.int s), .val (.lst (ws.map wD)), .val (.int k), .own (.lst [.tup []]), .val (.int 0), .no, .no]) (by
    simp [e4, e5, e6, setAll, noAt, keep, D.imm, entry, svs, ev.eq_1, ev.eq_2, ev.eq_3, ev.eq_4, ev.eq_5, ev.eq_6, ev.eq_7, ev.eq_8, ev.eq_9, ev.eq_10, ev.eq_11, ev.eq_12, ev.eq_13, ev.eq_14, ev.eq_15, ev.eq_16, ev.eq_17, ev.eq_18, ev.eq_19, ev.eq_20, ev.eq_21, ev.eq_22, ev.eq_23, ev.eq_24, ev.eq_25, ev.eq_26, sv.eq_1, sv.eq_2, sv.eq_3, sv.eq_4, sv.eq_5, sv.eq_6, sv.eq_7, sv.eq_10, sv.eq_11, sv.eq_12, sv.eq_13, evs, evp, evo, tv, itv_rng1, itv_rng2, itv_seq, itv_enum, items, callWith, arrange, rds, rd, after, stls, stl, immR, lite, D.imm, isTy, truth, leave, retv, keep, cop_lt, cop_gt, cop_le, cop_ge, cop_eq, cop_ne, bop_add, bop_sub])]
  rw [svs_cons (ρ1 := [.val (.int s), .val (.lst (ws.map wD)), .val (.int k), .own (.lst [.tup []]), .val (.int 0), .own (.dic (wdD (.bl true) (kn ws))), .no]) (by simp [kd, entry, svs, ev.eq_1, ev.eq_2, ev.eq_3, ev.eq_4, ev.eq_5, ev.eq_6, ev.eq_7, ev.eq_8, ev.eq_9, ev.eq_10, ev.eq_11, ev.eq_12, ev.eq_13, ev.eq_14, ev.eq_15, ev.eq_16, ev.eq_17, ev.eq_18, ev.eq_19, ev.eq_20, ev.eq_21, ev.eq_22, ev.eq_23, ev.eq_24, ev.eq_25, ev.eq_26, sv.eq_1, sv.eq_2, sv.eq_3, sv.eq_4, sv.eq_5, sv.eq_6, sv.eq_7, sv.eq_10, sv.eq_11, sv.eq_12, sv.eq_13, evs, evp, evo, tv, itv_rng1, itv_rng2, itv_seq, itv_enum, items, callWith, arrange, rds, rd, after, stls, stl, immR, lite, D.imm, isTy, truth, leave, retv, keep, cop_lt, cop_gt, cop_le, cop_ge, cop_eq, cop_ne, bop_add, bop_sub])]
  rw [svs_cons (ρ1 := [.val (.int s), .val (.lst (ws.map wD)), y2, .own (.lst []), .val (.int (posC s k ws : Nat)), .own (.dic (wdD (.bl true) (kn ws))), y6]) (by
    rw [sv_whl]
    exact e)]
  simp [entry, svs, ev.eq_1, ev.eq_2, ev.eq_3, ev.eq_4, ev.eq_5, ev.eq_6, ev.eq_7, ev.eq_8, ev.eq_9, ev.eq_10, ev.eq_11, ev.eq_12, ev.eq_13, ev.eq_14, ev.eq_15, ev.eq_16, ev.eq_17, ev.eq_18, ev.eq_19, ev.eq_20, ev.eq_21, ev.eq_22, ev.eq_23, ev.eq_24, ev.eq_25, ev.eq_26, sv.eq_1, sv.eq_2, sv.eq_3, sv.eq_4, sv.eq_5, sv.eq_6, sv.eq_7, sv.eq_10, sv.eq_11, sv.eq_12, sv.eq_13, evs, evp, evo, tv, itv_rng1, itv_rng2, itv_seq, itv_enum, items, callWith, arrange, rds, rd, after, stls, stl, immR, lite, D.imm, isTy, truth, leave, retv, keep, cop_lt, cop_gt, cop_le, cop_ge, cop_eq, cop_ne, bop_add, bop_sub]
theorem cut_position_eq {s k : Nat} {ws : List Wd} (h0 : 2 ≤ s) (hs : s ≤ 4) (hf : Full s k ws) (hk : k ≤ 40) (hW : 1000 < W) : callF W Γ (n + 7) "cut_position" [.int s, .lst (ws.map wD)] = some (.val (.int (posC s k ws : Nat)), none) := by
  have e1 := want_full_eq (W := W) (n := n) h0 hs hf hk
  have e2 := walked_eq (W := W) (n := n + 3) h0 hs hf hk hW
  rw [callF_go g_cut_position rfl]
  simp [b_cut_position, e1, e2, entry, svs, ev.eq_1, ev.eq_2, ev.eq_3, ev.eq_4, ev.eq_5, ev.eq_6, ev.eq_7, ev.eq_8, ev.eq_9, ev.eq_10, ev.eq_11, ev.eq_12, ev.eq_13, ev.eq_14, ev.eq_15, ev.eq_16, ev.eq_17, ev.eq_18, ev.eq_19, ev.eq_20, ev.eq_21, ev.eq_22, ev.eq_23, ev.eq_24, ev.eq_25, ev.eq_26, sv.eq_1, sv.eq_2, sv.eq_3, sv.eq_4, sv.eq_5, sv.eq_6, sv.eq_7, sv.eq_10, sv.eq_11, sv.eq_12, sv.eq_13, sv_for, sv_whl, ev_comp, evs, evp, evo, tv, itv_rng1, itv_rng2, itv_seq, itv_enum, items, callWith, arrange, rds, rd, after, stls, stl, immR, lite, D.imm, isTy, truth, leave, retv, keep, cop_lt, cop_gt, cop_le, cop_ge, cop_eq, cop_ne, bop_add, bop_sub]
theorem cut_at_eq {s k p : Nat} (h0 : 2 ≤ s) (hs : s ≤ 4) (hk : k ≤ 40) (hp : p < FN s 1 k) (hW : 1000 < W) : callF W Γ (n + 5) "cut_at" [.int s, .int k, .int p] = some (.new (.lst ((bldC s k p).map wD)), none) := by
  have f := forests_eq (W := W) (n := n + 2) (s := s) (m := 1) (k := k) (by omega) (by omega) (by omega) (.inr (by omega))
  simp only [Int.natCast_one] at f
  have b := built_eq (W := W) (n := n + 1) (s := s) (splits := k) (pos := p) h0 hs (by omega) hp hW
  have c1 : (0 : Int) ≤ p := by omega
  have c2 : ¬ FN s 1 k ≤ p := by omega
  have c := is_count_eq (W := W) (n := n + 2) (i := (p : Int))
  simp only [wsL] at b
  rw [callF_go g_cut_at rfl]
  simp [b_cut_at, want_splits_eq h0 hs hk, c, f, b, c2, entry, svs, ev.eq_1, ev.eq_2, ev.eq_3, ev.eq_4, ev.eq_5, ev.eq_6, ev.eq_7, ev.eq_8, ev.eq_9, ev.eq_10, ev.eq_11, ev.eq_12, ev.eq_13, ev.eq_14, ev.eq_15, ev.eq_16, ev.eq_17, ev.eq_18, ev.eq_19, ev.eq_20, ev.eq_21, ev.eq_22, ev.eq_23, ev.eq_24, ev.eq_25, ev.eq_26, sv.eq_1, sv.eq_2, sv.eq_3, sv.eq_4, sv.eq_5, sv.eq_6, sv.eq_7, sv.eq_10, sv.eq_11, sv.eq_12, sv.eq_13, sv_for, sv_whl, ev_comp, evs, evp, evo, tv, itv_rng1, itv_rng2, itv_seq, itv_enum, items, callWith, arrange, rds, rd, after, stls, stl, immR, lite, D.imm, isTy, truth, leave, retv, keep, cop_lt, cop_gt, cop_le, cop_ge, cop_eq, cop_ne, bop_add, bop_sub]
end
end G92

set_option linter.all false
set_option autoImplicit false
set_option Elab.async false
set_option maxRecDepth 100000
set_option maxHeartbeats 1000000
namespace G92
open PySem (Str)
open Z
/-! counts of cuts, words, sorted cuts -/
section
variable {W n : Nat}
theorem cut_count_eq {s k : Nat} (h0 : 2 ≤ s) (h1 : s ≤ 4) (hk : k ≤ 40) : callF W Γ (n + 5) "cut_count" [.int s, .int k] = some (.val (.int (FN s 1 k : Nat)), none) := by
  have e := forests_eq (W := W) (n := n + 2) (s := s) (m := 1) (k := k) (by omega) (by omega) (by omega) (.inr (by omega))
  simp only [Int.natCast_one] at e
  rw [callF_go g_cut_count rfl]
  simp [b_cut_count, want_splits_eq h0 h1 hk, e, entry, svs, ev.eq_1, ev.eq_2, ev.eq_3, ev.eq_4, ev.eq_5, ev.eq_6, ev.eq_7, ev.eq_8, ev.eq_9, ev.eq_10, ev.eq_11, ev.eq_12, ev.eq_13, ev.eq_14, ev.eq_15, ev.eq_16, ev.eq_17, ev.eq_18, ev.eq_19, ev.eq_20, ev.eq_21, ev.eq_22, ev.eq_23, ev.eq_24, ev.eq_25, ev.eq_26, sv.eq_1, sv.eq_2, sv.eq_3, sv.eq_4, sv.eq_5, sv.eq_6, sv.eq_7, sv.eq_10, sv.eq_11, sv.eq_12, sv.eq_13, sv_for, sv_whl, ev_comp, evs, evp, evo, tv, itv_rng1, itv_rng2, itv_seq, itv_enum, items, callWith, arrange, rds, rd, after, stls, stl, immR, lite, D.imm, isTy, truth, leave, retv, keep, cop_lt, cop_gt, cop_le, cop_ge, cop_eq, cop_ne, bop_add, bop_sub]
theorem lwords_eq {s k : Nat} (h0 : 2 ≤ s) (hs : s ≤ 4) (hk : k ≤ 40) : callF W Γ (n + 1) "_law_words" [.int s, .int k] = some (.val (.int ((s - 1) * k + 1 : Nat)), none) := by
  have a1 : ((s : Int) - 1).natAbs < 18446744073709551616 := by omega
  have q : ((s : Int) - 1) * (k : Int) = (((s - 1) * k : Nat) : Int) := by
    rw [Int.natCast_mul, Int.natCast_sub (by omega)]
    rfl
  rw [callF_go g__law_words rfl]
  simp [b__law_words, bop_mulL a1, q, entry, svs, ev.eq_1, ev.eq_2, ev.eq_3, ev.eq_4, ev.eq_5, ev.eq_6, ev.eq_7, ev.eq_8, ev.eq_9, ev.eq_10, ev.eq_11, ev.eq_12, ev.eq_13, ev.eq_14, ev.eq_15, ev.eq_16, ev.eq_17, ev.eq_18, ev.eq_19, ev.eq_20, ev.eq_21, ev.eq_22, ev.eq_23, ev.eq_24, ev.eq_25, ev.eq_26, sv.eq_1, sv.eq_2, sv.eq_3, sv.eq_4, sv.eq_5, sv.eq_6, sv.eq_7, sv.eq_10, sv.eq_11, sv.eq_12, sv.eq_13, sv_for, sv_whl, ev_comp, evs, evp, evo, tv, itv_rng1, itv_rng2, itv_seq, itv_enum, items, callWith, arrange, rds, rd, after, stls, stl, immR, lite, D.imm, isTy, truth, leave, retv, keep, cop_lt, cop_gt, cop_le, cop_ge, cop_eq, cop_ne, bop_add, bop_sub]
theorem pickN {p q : Int} {l : List Nat} {B : Nat} (h : l ≠ []) (hl : l.length < 1000000) (hB : ∀ x ∈ l, x ≤ B) : ∃ v : Nat, ∃ p' q' : Int, v ≤ B ∧ v ∈ l ∧ callF W Γ (n + 2) "_law_pick" [.lst [.int p, .int q], .lst (l.map nD)] = some (.val (.int v), some (.lst [.int p', .int q'])) := by
  obtain ⟨y, hy, p', q', e⟩ := pick_eq (W := W) (n := n) (p := p) (q := q) (xs := l.map nD) (by rw [List.length_map]; exact List.length_pos_iff.mpr h) (by rwa [List.length_map])
  obtain ⟨v, hv, rfl⟩ := List.mem_map.mp hy
  exact ⟨v, p', q', hB v hv, hv, e⟩
theorem ne_ws (a b : List Wd) : cop .NotEq (.lst (a.map wD)) (.lst (b.map wD)) = some (!decide (a = b)) := by
  have : cop .NotEq (.lst (a.map wD)) (.lst (b.map wD)) = if ((D.lst (a.map wD)).fl && (D.lst (b.map wD)).fl) = true then some (!D.eqv (wsL a) (wsL b)) else none := rfl
  rw [this, wsL_fl, wsL_fl, Bool.and_true, if_pos rfl, wsL_enc.eq]
theorem eq_ws (a b : List Wd) : cop .Eq (.lst (a.map wD)) (.lst (b.map wD)) = some (decide (a = b)) := by
  have : cop .Eq (.lst (a.map wD)) (.lst (b.map wD)) = if ((D.lst (a.map wD)).fl && (D.lst (b.map wD)).fl) = true then some (D.eqv (wsL a) (wsL b)) else none := rfl
  rw [this, wsL_fl, wsL_fl, Bool.and_true, if_pos rfl, wsL_enc.eq]
theorem lt_ws (a b : List Wd) : cop .Lt (.lst (a.map wD)) (.lst (b.map wD)) = some (clt a b) := cop_lt_enc wsL_enc (by simp [SHS]) a b (by intro h; cases h)
theorem ne_bl (a b : Bool) : cop .NotEq (.bl a) (.bl b) = some (!(a == b)) := by
  show (if ((D.bl a).fl && (D.bl b).fl) = true then some (!D.eqv (.bl a) (.bl b)) else none) = _
  have h : ((D.bl a).fl && (D.bl b).fl) = true := rfl
  rw [if_pos h]
  simp [D.eqv]
/-- a full cut stays, sorted -/
theorem sorted_ws {s k : Nat} {ws : List Wd} (h0 : 2 ≤ s) (hf : Full s k ws) : bfv .sorted [.lst (ws.map wD)] = some (.new (.lst (ws.map wD))) := by
  have ok : okS (ws.map wD) = true := by
    by_cases z : k = 0
    · subst z
      have hl := Full.len (show 1 ≤ s by omega) hf
      unfold okS
      rw [List.length_map, hl, decide_eq_true (by omega)]
      rfl
    · refine okS_map wD_enc (by simp [SHS]) fun w hw => ?_
      cases w with
      | cons a w => rfl
      | nil =>
        exfalso
        have lo := Full.lo (show 1 ≤ s by omega) hf
        have pf := pf_of lo
        have hl := Full.len (show 1 ≤ s by omega) hf
        have q : 1 * 1 ≤ (s - 1) * k := Nat.mul_le_mul (by omega) (by omega)
        have all : ∀ x ∈ ws, x = [] := fun x hx => pf [] x hw (by rw [List.nil_append]; exact hx)
        match ws, lo, hl, all with
        | [], _, hl, _ => simp at hl
        | [_], _, hl, _ => simp at hl; omega
        | a :: b :: _, lo, _, all =>
          have h := (List.pairwise_cons.mp lo).1 b List.mem_cons_self
          have e1 := all a List.mem_cons_self
          have e2 := all b (List.mem_cons_of_mem _ List.mem_cons_self)
          rw [e1, e2] at h
          exact (h.ne (t := [])).1 rfl
  have sd : sortD (ws.map wD) = ws.map wD := by rw [sortD_map wD_enc, srt_id wlt_tot (Full.srt (show 1 ≤ s by omega) hf)]
  cases ws with
  | nil => rfl
  | cons w ws =>
    have hn : intsOf ((w :: ws).map wD) = none := rfl
    show (match intsOf ((w :: ws).map wD) with
      | some l => some (RV.new (.lst ((sortI l).map .int)))
      | none => if okS ((w :: ws).map wD) then some (.new (.lst (sortD ((w :: ws).map wD)))) else none) = _
    rw [hn]
    dsimp only
    rw [if_pos ok, sd]
end
/-! a drawn cut -/
section
variable {W n : Nat}
theorem lcut_eq {s k : Nat} {p q : Int} (h0 : 2 ≤ s) (hs : s ≤ 4) (hk : k ≤ 40) : ∃ ws, ∃ p' q' : Int, Full s k ws ∧ callF W Γ (n + 2) "_law_cut" [.lst [.int p, .int q], .int s, .int k] = some (.new (.lst (ws.map wD)), some (.lst [.int p', .int q'])) := by
  have i1 : InR (k : Int) := inR (by omega) (by omega)
  obtain ⟨ρF, e, p', q', ws, x, hf, rfl⟩ := forF_rng (lo := 0) (n := k) (g := Lg ⟨callF W Γ (n + 1), W⟩ (.nm 4)) (b := Lb ⟨callF W Γ (n + 1), W⟩ q__law_cut_1) (ρ0 := [.bor (.lst [.int p, .int q]), .val (.int s), .val (.int k), .own (.lst [D.tup []]), .no])
    (fun i ρ => ∃ p q : Int, ∃ ws x, Full s i ws ∧ ρ = [.bor (.lst [.int p, .int q]), .val (.int s), .val (.int k), .own (.lst (ws.map wD)), x]) ⟨p, q, [[]], _, ⟨fc_zero (show 1 ≤ s by omega)⟩, rfl⟩ fun i ρ hi ⟨p, q, ws, x, hf, e⟩ => by
      subst e
      have hl := Full.len (show 1 ≤ s by omega) hf
      have q0 : (s - 1) * i ≤ 3 * 40 := Nat.mul_le_mul (by omega) (by omega)
      obtain ⟨d, p', q', hd, ed⟩ := drawN (W := W) (n := n) (p := p) (q := q) (many := ws.length) (by omega) (by omega)
      have sp := lsplit_eq (W := W) (n := n) (s := s) (k := d) (ws := ws) hs hd (by omega) (fun w hw => by have := Full.short (show 1 ≤ s by omega) hf w hw; omega)
      have ln := len_ws ws
      refine ⟨[.bor (.lst [.int p, .int q]), .val (.int s), .val (.int k), .own (.lst (ws.map wD)), .val (.int (0 + (i : Int)))], [.bor (.lst [.int p', .int q']), .val (.int s), .val (.int k), .own (.lst ((splitAt' s ws d).map wD)), .val (.int (0 + (i : Int)))], by simp [Lg, gv], ?_, p', q', splitAt' s ws d, _, ⟨Fc.cut (show 1 ≤ s by omega) hf.fc d hd⟩, rfl⟩
      simp only [wsL] at sp
      show svs _ _ _ = _
      simp [q__law_cut_1, sp, ln, ed, Sl.cell, Sl.to, entry, svs, ev.eq_1, ev.eq_2, ev.eq_3, ev.eq_4, ev.eq_5, ev.eq_6, ev.eq_7, ev.eq_8, ev.eq_9, ev.eq_10, ev.eq_11, ev.eq_12, ev.eq_13, ev.eq_14, ev.eq_15, ev.eq_16, ev.eq_17, ev.eq_18, ev.eq_19, ev.eq_20, ev.eq_21, ev.eq_22, ev.eq_23, ev.eq_24, ev.eq_25, ev.eq_26, sv.eq_1, sv.eq_2, sv.eq_3, sv.eq_4, sv.eq_5, sv.eq_6, sv.eq_7, sv.eq_10, sv.eq_11, sv.eq_12, sv.eq_13, evs, evp, evo, tv, itv_rng1, itv_rng2, itv_seq, itv_enum, items, callWith, arrange, rds, rd, after, stls, stl, immR, lite, D.imm, isTy, truth, leave, retv, keep, cop_lt, cop_gt, cop_le, cop_ge, cop_eq, cop_ne, bop_add, bop_sub]
      split <;> rfl
  refine ⟨ws, p', q', hf, ?_⟩
  rw [callF_go g__law_cut rfl]
  simp only [b__law_cut]
  rw [svs_cons (ρ1 := [.bor (.lst [.int p, .int q]), .val (.int s), .val (.int k), .own (.lst [D.tup []]), .no]) (by simp [entry, svs, ev.eq_1, ev.eq_2, ev.eq_3, ev.eq_4, ev.eq_5, ev.eq_6, ev.eq_7, ev.eq_8, ev.eq_9, ev.eq_10, ev.eq_11, ev.eq_12, ev.eq_13, ev.eq_14, ev.eq_15, ev.eq_16, ev.eq_17, ev.eq_18, ev.eq_19, ev.eq_20, ev.eq_21, ev.eq_22, ev.eq_23, ev.eq_24, ev.eq_25, ev.eq_26, sv.eq_1, sv.eq_2, sv.eq_3, sv.eq_4, sv.eq_5, sv.eq_6, sv.eq_7, sv.eq_10, sv.eq_11, sv.eq_12, sv.eq_13, evs, evp, evo, tv, itv_rng1, itv_rng2, itv_seq, itv_enum, items, callWith, arrange, rds, rd, after, stls, stl, immR, lite, D.imm, isTy, truth, leave, retv, keep, cop_lt, cop_gt, cop_le, cop_ge, cop_eq, cop_ne, bop_add, bop_sub])]
  rw [svs_cons (ρ1 := [.bor (.lst [.int p', .int q']), .val (.int s), .val (.int k), .own (.lst (ws.map wD)), x]) (by simp only [sv_for]; simp [i1, e, entry, svs, ev.eq_1, ev.eq_2, ev.eq_3, ev.eq_4, ev.eq_5, ev.eq_6, ev.eq_7, ev.eq_8, ev.eq_9, ev.eq_10, ev.eq_11, ev.eq_12, ev.eq_13, ev.eq_14, ev.eq_15, ev.eq_16, ev.eq_17, ev.eq_18, ev.eq_19, ev.eq_20, ev.eq_21, ev.eq_22, ev.eq_23, ev.eq_24, ev.eq_25, ev.eq_26, sv.eq_1, sv.eq_2, sv.eq_3, sv.eq_4, sv.eq_5, sv.eq_6, sv.eq_7, sv.eq_10, sv.eq_11, sv.eq_12, sv.eq_13, evs, evp, evo, tv, itv_rng1, itv_rng2, itv_seq, itv_enum, items, callWith, arrange, rds, rd, after, stls, stl, immR, lite, D.imm, isTy, truth, leave, retv, keep, cop_lt, cop_gt, cop_le, cop_ge, cop_eq, cop_ne, bop_add, bop_sub])]
  simp [Sl.cell, entry, svs, ev.eq_1, ev.eq_2, ev.eq_3, ev.eq_4, ev.eq_5, ev.eq_6, ev.eq_7, ev.eq_8, ev.eq_9, ev.eq_10, ev.eq_11, ev.eq_12, ev.eq_13, ev.eq_14, ev.eq_15, ev.eq_16, ev.eq_17, ev.eq_18, ev.eq_19, ev.eq_20, ev.eq_21, ev.eq_22, ev.eq_23, ev.eq_24, ev.eq_25, ev.eq_26, sv.eq_1, sv.eq_2, sv.eq_3, sv.eq_4, sv.eq_5, sv.eq_6, sv.eq_7, sv.eq_10, sv.eq_11, sv.eq_12, sv.eq_13, evs, evp, evo, tv, itv_rng1, itv_rng2, itv_seq, itv_enum, items, callWith, arrange, rds, rd, after, stls, stl, immR, lite, D.imm, isTy, truth, leave, retv, keep, cop_lt, cop_gt, cop_le, cop_ge, cop_eq, cop_ne, bop_add, bop_sub]
end
end G92

set_option linter.all false
set_option autoImplicit false
set_option Elab.async false
set_option maxRecDepth 100000
set_option maxHeartbeats 1000000
namespace G92
open PySem (Str)
open Z
/-! k92: the lists of cuts are the same -/
/-- for the kernel -/
def bldK (s : Nat) : Nat → Nat → Nat → List Wd → List Wd
  | 0, _, _, _ => []
  | _ + 1, _, _, [] => []
  | f + 1, pos, left, w :: st => if pos < FNc s st.length left then w :: bldK s f pos left st else bldK s f (pos - FNc s st.length left) (left - 1) (kids s w ++ st)
theorem bld_k (s : Nat) : ∀ (f pos left : Nat) (st : List Wd), bld s f pos left st = bldK s f pos left st
  | 0, _, _, _ => rfl
  | _ + 1, _, _, [] => rfl
  | f + 1, pos, left, w :: st => by
    rw [bld, bldK, FN_c, bld_k s f, bld_k s f]
def okAll : Bool := [(2, 7), (3, 5), (4, 4)].all fun (p : Nat × Nat) => (List.range p.2).all fun k => okCuts p.1 k && (List.range (k + 1)).all (fun i => !(cutsN p.1 i).isEmpty) && (cutsN p.1 k).all (fun c => !c.isEmpty) && decide ((cutsN p.1 k).length < 1000) && decide (FNc p.1 1 k ≤ 600) &&
  decide (allCuts p.1 k = (List.range (FNc p.1 1 k)).map fun i => bldK p.1 (p.1 * k + 1) i k [[]])
theorem okAll_ok : okAll = true := by decide +kernel
/-- small sizes and splits -/
def Sm (s k : Nat) : Prop := (s = 2 ∧ k < 7) ∨ (s = 3 ∧ k < 5) ∨ (s = 4 ∧ k < 4)
def duD (s k : Nat) : List D := (List.range (FN s 1 k)).map fun i => wsL (bldC s k i)
theorem Sm.due {s k : Nat} (h : Sm s k) : FN s 1 k ≤ 600 ∧ ∀ W n, callF W Γ (n + 2) "_law_all_cuts" [.int s, .int k] = some (.new (.lst (duD s k)), none) := by
  have hp : ∃ p ∈ [(2, 7), (3, 5), (4, 4)], p.1 = s ∧ k < p.2 := by
    rcases h with ⟨rfl, h⟩ | ⟨rfl, h⟩ | ⟨rfl, h⟩
    · exact ⟨(2, 7), by simp, rfl, h⟩
    · exact ⟨(3, 5), by simp, rfl, h⟩
    · exact ⟨(4, 4), by simp, rfl, h⟩
  have hs4 : s ≤ 4 := by rcases h with ⟨h, _⟩ | ⟨h, _⟩ | ⟨h, _⟩ <;> omega
  have hk7 : k < 7 := by rcases h with ⟨_, h⟩ | ⟨_, h⟩ | ⟨_, h⟩ <;> omega
  obtain ⟨p, hp, rfl, hl⟩ := hp
  have h := List.all_eq_true.mp (List.all_eq_true.mp okAll_ok p hp) k (List.mem_range.mpr hl)
  simp only [Bool.and_eq_true, decide_eq_true_eq] at h
  obtain ⟨⟨⟨⟨⟨h1, h2⟩, h3⟩, h4⟩, h5⟩, h6⟩ := h
  refine ⟨by rw [FN_c]; exact h5, fun W n => ?_⟩
  have e := lall_eq (W := W) (n := n) hs4 (by omega) h1 (fun i hi e => by
    have := List.all_eq_true.mp h2 i (List.mem_range.mpr (by omega))
    rw [e] at this
    cases this) (fun c hc e => by
    have := List.all_eq_true.mp h3 c hc
    rw [e] at this
    cases this) h4
  rw [e, h6]
  unfold duD bldC
  rw [List.map_map, FN_c]
  congr 5
  funext i
  show wsL (bldK _ _ _ _ _) = wsL (bld _ _ _ _ _)
  rw [bld_k]
theorem Sm.lo {s k : Nat} (h : Sm s k) : 2 ≤ s ∧ s ≤ 4 ∧ k ≤ 6 := by rcases h with ⟨h, g⟩ | ⟨h, g⟩ | ⟨h, g⟩ <;> omega
theorem Sm.wt {s k : Nat} (h : Sm s k) {c : List Wd} (hf : Full s k c) : (wsL c).shw 18 = true ∧ (wsL c).wt ≤ 300 := by
  obtain ⟨h0, h4, _⟩ := h.lo
  have lt : ∀ w ∈ c, ∀ i ∈ w, i < 16 := fun w hw i hi => by have := Full.letters (show 1 ≤ s by omega) hf w hw i hi; omega
  refine ⟨shw_wsL lt, Nat.le_trans (wt_wsL lt (Full.short (show 1 ≤ s by omega) hf)) ?_⟩
  rw [Full.len (show 1 ≤ s by omega) hf]
  rcases h with ⟨rfl, h⟩ | ⟨rfl, h⟩ | ⟨rfl, h⟩
  · exact Nat.le_trans (Nat.mul_le_mul (show (2 - 1) * k + 1 ≤ 7 by omega) (show k * 5 + 1 ≤ 31 by omega)) (by decide)
  · exact Nat.le_trans (Nat.mul_le_mul (show (3 - 1) * k + 1 ≤ 9 by omega) (show k * 5 + 1 ≤ 21 by omega)) (by decide)
  · exact Nat.le_trans (Nat.mul_le_mul (show (4 - 1) * k + 1 ≤ 10 by omega) (show k * 5 + 1 ≤ 16 by omega)) (by decide)
theorem Sm.du {s k : Nat} (h : Sm s k) : (D.lst (duD s k)).shw 19 = true ∧ (D.lst (duD s k)).wt ≤ 180600 := by
  obtain ⟨h0, h4, _⟩ := h.lo
  have hm := h.due.1
  have at_ : ∀ i ∈ List.range (FN s 1 k), Full s k (bldC s k i) := fun i hi => full_bld (show 1 ≤ s by omega) (List.mem_range.mp hi)
  refine ⟨?_, ?_⟩
  · rw [shw_lst]
    exact shws_map _ _ _ fun i hi => (h.wt (at_ i hi)).1
  · rw [wt_lst]
    refine Nat.le_trans (wts_map _ _ 300 fun i hi => (h.wt (at_ i hi)).2) ?_
    rw [List.length_range]
    exact Nat.mul_le_mul_right 301 hm
/-- two of a kind, shown -/
theorem repr2 {d : D} (h : d.shw 19 = true) (h2 : d.wt ≤ 500000) : bfv .repr [.lst [d, d]] = some (.val (.str (reprS (.lst [d, d])))) := by
  refine repr_v ?_ ?_
  · rw [shw_lst, D.shws, D.shws, D.shws, h]
    rfl
  · rw [wt_lst, D.wts, D.wts, D.wts]
    omega
theorem repr4 {a k : Nat} (ha : a < 1000000) (hk : k < 1000000) : bfv .repr [.lst [.int a, .int a, .int k, .int k]] = some (.val (.str (reprS (.lst [.int a, .int a, .int k, .int k])))) := by
  have l : ∀ x ∈ [a, a, k, k], x < 1000000 := fun x hx => by
    simp only [List.mem_cons, List.not_mem_nil, or_false] at hx
    omega
  have e : [D.int a, .int a, .int k, .int k] = [a, a, k, k].map nD := rfl
  rw [e]
  refine repr_v ?_ ?_
  · rw [shw_lst]
    exact shws_map nD _ _ fun x hx => shw_nD (l x hx)
  · rw [wt_lst]
    exact Nat.le_trans (wts_map nD _ 40 fun x _ => wt_nD x) (show 4 * (40 + 1) ≤ 1048576 by decide)
theorem idx_map : ∀ (xs : List (List Wd)) (p : Nat) (c : List Wd), xs[p]? = some c → (∀ j, j < p → xs[j]? ≠ some c) → idxD (wsL c) (xs.map wsL) = p ∧ mem (wsL c) (xs.map wsL) = true
  | [], p, c, h, _ => by simp at h
  | x :: xs, 0, c, h, _ => by
    simp only [List.getElem?_cons_zero, Option.some.injEq] at h
    subst h
    refine ⟨?_, ?_⟩
    · rw [List.map_cons, idxD, wsL_enc.eq, decide_eq_true rfl, if_pos rfl]
    · unfold mem
      rw [List.map_cons, List.any_cons, wsL_enc.eq, decide_eq_true rfl]
      rfl
  | x :: xs, p + 1, c, h, hn => by
    have ne : ¬ x = c := fun z => hn 0 (by omega) (by rw [z]; rfl)
    obtain ⟨h1, h2⟩ := idx_map xs p c (by simpa using h) fun j hj z => hn (j + 1) (by omega) (by simpa using z)
    refine ⟨?_, ?_⟩
    · rw [List.map_cons, idxD, wsL_enc.eq, decide_eq_false ne, if_neg Bool.false_ne_true, h1]
    · unfold mem at h2 ⊢
      rw [List.map_cons, List.any_cons, h2, Bool.or_true]
theorem index_v {s k : Nat} (h0 : 2 ≤ s) {c : List Wd} (hf : Full s k c) : mtv .index (.lst (duD s k)) [.lst (c.map wD)] = some (.int (posC s k c : Nat)) := by
  obtain ⟨hp, hb⟩ := Full.wk (show 1 ≤ s by omega) hf
  have e : duD s k = ((List.range (FN s 1 k)).map fun i => bldC s k i).map wsL := by unfold duD; rw [List.map_map]; rfl
  have at_ : ∀ j, j < FN s 1 k → ((List.range (FN s 1 k)).map fun i => bldC s k i)[j]? = some (bldC s k j) := fun j hj => by
    rw [List.getElem?_map, List.getElem?_range hj]
    rfl
  obtain ⟨h1, h2⟩ := idx_map ((List.range (FN s 1 k)).map fun i => bldC s k i) (posC s k c) c ((at_ _ hp).trans (congrArg some hb)) fun j hj z => by
    have hp : posC s k c < FN s 1 k := hp
    rw [at_ j (by omega)] at z
    have := bld_inj (show 1 ≤ s by omega) (f := s * k + 1) (l := k) (st := [[]]) (Nat.le_refl _) (show j < FN s [[]].length k by show j < FN s 1 k; omega) hp ((Option.some.inj z).trans hb.symm)
    have this : j = posC s k c := this
    omega
  have fl2 : ∀ xs : List (List Wd), D.flats 20 (xs.map wsL) = true := fun xs => by
    induction xs with
    | nil => rfl
    | cons x xs ih =>
      rw [List.map_cons, D.flats, ih, Bool.and_true]
      show D.flat 20 (.lst (x.map wD)) = true
      rw [D.flat, flats_wD]
  have : mtv .index (.lst (duD s k)) [.lst (c.map wD)] = if (D.lst (c.map wD)).fl && D.flats 20 (duD s k) && mem (wsL c) (duD s k) then some (.int (idxD (wsL c) (duD s k))) else none := rfl
  rw [this, wsL_fl, e, fl2, h2, h1]
  rfl
section
variable {W n : Nat}
/-! tuples of words are lists to the program -/
theorem is_listT {ws : List Wd} : callF W Γ (n + 1) "is_list" [.tup (ws.map wD)] = some (.val (.bl true), none) := by
  rw [callF_go g_is_list rfl]; simp [b_is_list, entry, svs, ev.eq_1, ev.eq_2, ev.eq_3, ev.eq_4, ev.eq_5, ev.eq_6, ev.eq_7, ev.eq_8, ev.eq_9, ev.eq_10, ev.eq_11, ev.eq_12, ev.eq_13, ev.eq_14, ev.eq_15, ev.eq_16, ev.eq_17, ev.eq_18, ev.eq_19, ev.eq_20, ev.eq_21, ev.eq_22, ev.eq_23, ev.eq_24, ev.eq_25, ev.eq_26, sv.eq_1, sv.eq_2, sv.eq_3, sv.eq_4, sv.eq_5, sv.eq_6, sv.eq_7, sv.eq_10, sv.eq_11, sv.eq_12, sv.eq_13, sv_for, sv_whl, ev_comp, evs, evp, evo, tv, itv_rng1, itv_rng2, itv_seq, itv_enum, items, callWith, arrange, rds, rd, after, stls, stl, immR, lite, D.imm, isTy, truth, leave, retv, keep, cop_lt, cop_gt, cop_le, cop_ge, cop_eq, cop_ne, bop_add, bop_sub]
theorem len_wsT (ws : List Wd) : bfv .len [.tup (ws.map wD)] = some (.val (.int ws.length)) := by
  show some (RV.val (.int ((ws.map wD).length : Nat))) = _
  rw [List.length_map]
theorem list_wsT (ws : List Wd) : bfv .list [.tup (ws.map wD)] = some (.new (.lst (ws.map wD))) := rfl
theorem want_wordsT {s k : Nat} {ws : List Wd} (h0 : 2 ≤ s) (hs : s ≤ 4) (hf : Full s k ws) (hk : k ≤ 40) : callF W Γ (n + 5) "want_words" [.int s, .tup (ws.map wD)] = some (.val .non, none) := by
  have hlen : ws.length ≤ 128 := by
    rw [Full.len (by omega) hf]
    have : (s - 1) * k ≤ 3 * 40 := Nat.mul_le_mul (by omega) hk
    omega
  have e := is_cut_value_eq (W := W) (n := n) (s := s) (ws := ws) hlen (fun w hw => ⟨Nat.le_trans (Full.short (by omega) hf w hw) hk, Full.letters (by omega) hf w hw⟩) (Full.lo (by omega) hf)
  have e1 := want_size_eq (W := W) (n := n + 1) h0 hs
  have e2 := is_listT (W := W) (n := n + 3) (ws := ws)
  have e3 := list_wsT ws
  rw [callF_go g_want_words rfl]
  simp [b_want_words, e, e1, e2, e3, entry, svs, ev.eq_1, ev.eq_2, ev.eq_3, ev.eq_4, ev.eq_5, ev.eq_6, ev.eq_7, ev.eq_8, ev.eq_9, ev.eq_10, ev.eq_11, ev.eq_12, ev.eq_13, ev.eq_14, ev.eq_15, ev.eq_16, ev.eq_17, ev.eq_18, ev.eq_19, ev.eq_20, ev.eq_21, ev.eq_22, ev.eq_23, ev.eq_24, ev.eq_25, ev.eq_26, sv.eq_1, sv.eq_2, sv.eq_3, sv.eq_4, sv.eq_5, sv.eq_6, sv.eq_7, sv.eq_10, sv.eq_11, sv.eq_12, sv.eq_13, sv_for, sv_whl, ev_comp, evs, evp, evo, tv, itv_rng1, itv_rng2, itv_seq, itv_enum, items, callWith, arrange, rds, rd, after, stls, stl, immR, lite, D.imm, isTy, truth, leave, retv, keep, cop_lt, cop_gt, cop_le, cop_ge, cop_eq, cop_ne, bop_add, bop_sub]
theorem want_fullT {s k : Nat} {ws : List Wd} (h0 : 2 ≤ s) (hs : s ≤ 4) (hf : Full s k ws) (hk : k ≤ 40) : callF W Γ (n + 6) "want_full" [.int s, .tup (ws.map wD)] = some (.new (.lst (ws.map wD)), none) := by
  have e1 := want_wordsT (W := W) (n := n) h0 hs hf hk
  have e2 := is_full_cut_eq (W := W) (n := n + 2) h0 hs hf hk
  have e3 := list_wsT ws
  have e4 := len_wsT ws
  have e5 := count_eq h0 hs hf
  have e6 := div_eq (k := k) h0 hs
  have e7 := fun w => want_at_most_eq (W := W) (n := n + 4) (w := w) (i := (k : Int)) (m := 40) (by omega)
  rw [callF_go g_want_full rfl]
  simp [b_want_full, e1, e2, e3, e4, e5, e6, e7, entry, svs, ev.eq_1, ev.eq_2, ev.eq_3, ev.eq_4, ev.eq_5, ev.eq_6, ev.eq_7, ev.eq_8, ev.eq_9, ev.eq_10, ev.eq_11, ev.eq_12, ev.eq_13, ev.eq_14, ev.eq_15, ev.eq_16, ev.eq_17, ev.eq_18, ev.eq_19, ev.eq_20, ev.eq_21, ev.eq_22, ev.eq_23, ev.eq_24, ev.eq_25, ev.eq_26, sv.eq_1, sv.eq_2, sv.eq_3, sv.eq_4, sv.eq_5, sv.eq_6, sv.eq_7, sv.eq_10, sv.eq_11, sv.eq_12, sv.eq_13, sv_for, sv_whl, ev_comp, evs, evp, evo, tv, itv_rng1, itv_rng2, itv_seq, itv_enum, items, callWith, arrange, rds, rd, after, stls, stl, immR, lite, D.imm, isTy, truth, leave, retv, keep, cop_lt, cop_gt, cop_le, cop_ge, cop_eq, cop_ne, bop_add, bop_sub]
theorem splits_ofT {s k : Nat} {ws : List Wd} (h0 : 2 ≤ s) (hs : s ≤ 4) (hf : Full s k ws) (hk : k ≤ 40) : callF W Γ (n + 7) "splits_of" [.int s, .tup (ws.map wD)] = some (.val (.int k), none) := by
  have e1 := want_fullT (W := W) (n := n) h0 hs hf hk
  have e4 := len_ws ws
  have e5 := count_eq h0 hs hf
  have e6 := div_eq (k := k) h0 hs
  rw [callF_go g_splits_of rfl]
  simp [b_splits_of, e1, e4, e5, e6, entry, svs, ev.eq_1, ev.eq_2, ev.eq_3, ev.eq_4, ev.eq_5, ev.eq_6, ev.eq_7, ev.eq_8, ev.eq_9, ev.eq_10, ev.eq_11, ev.eq_12, ev.eq_13, ev.eq_14, ev.eq_15, ev.eq_16, ev.eq_17, ev.eq_18, ev.eq_19, ev.eq_20, ev.eq_21, ev.eq_22, ev.eq_23, ev.eq_24, ev.eq_25, ev.eq_26, sv.eq_1, sv.eq_2, sv.eq_3, sv.eq_4, sv.eq_5, sv.eq_6, sv.eq_7, sv.eq_10, sv.eq_11, sv.eq_12, sv.eq_13, sv_for, sv_whl, ev_comp, evs, evp, evo, tv, itv_rng1, itv_rng2, itv_seq, itv_enum, items, callWith, arrange, rds, rd, after, stls, stl, immR, lite, D.imm, isTy, truth, leave, retv, keep, cop_lt, cop_gt, cop_le, cop_ge, cop_eq, cop_ne, bop_add, bop_sub]
theorem cut_positionT {s k : Nat} {ws : List Wd} (h0 : 2 ≤ s) (hs : s ≤ 4) (hf : Full s k ws) (hk : k ≤ 40) (hW : 1000 < W) : callF W Γ (n + 7) "cut_position" [.int s, .tup (ws.map wD)] = some (.val (.int (posC s k ws : Nat)), none) := by
  have e1 := want_fullT (W := W) (n := n) h0 hs hf hk
  have e2 := walked_eq (W := W) (n := n + 3) h0 hs hf hk hW
  rw [callF_go g_cut_position rfl]
  simp [b_cut_position, e1, e2, entry, svs, ev.eq_1, ev.eq_2, ev.eq_3, ev.eq_4, ev.eq_5, ev.eq_6, ev.eq_7, ev.eq_8, ev.eq_9, ev.eq_10, ev.eq_11, ev.eq_12, ev.eq_13, ev.eq_14, ev.eq_15, ev.eq_16, ev.eq_17, ev.eq_18, ev.eq_19, ev.eq_20, ev.eq_21, ev.eq_22, ev.eq_23, ev.eq_24, ev.eq_25, ev.eq_26, sv.eq_1, sv.eq_2, sv.eq_3, sv.eq_4, sv.eq_5, sv.eq_6, sv.eq_7, sv.eq_10, sv.eq_11, sv.eq_12, sv.eq_13, sv_for, sv_whl, ev_comp, evs, evp, evo, tv, itv_rng1, itv_rng2, itv_seq, itv_enum, items, callWith, arrange, rds, rd, after, stls, stl, immR, lite, D.imm, isTy, truth, leave, retv, keep, cop_lt, cop_gt, cop_le, cop_ge, cop_eq, cop_ne, bop_add, bop_sub]
theorem tuple_ws (ws : List Wd) : bfv .tuple [.lst (ws.map wD)] = some (.val (.tup (ws.map wD))) := rfl
end
end G92

set_option linter.all false
set_option autoImplicit false
set_option Elab.async false
set_option maxRecDepth 100000
set_option maxHeartbeats 1000000
namespace G92
open PySem (Str)
open Z
section
variable {W n : Nat}
theorem q1_eq {p q : Int} {s k : Nat} {x4 x5 x6 x7 : Sl} (hm : Sm s k) (hW : 1000 < W) : ∃ p' q' : Int, ∃ y5 y6 y7 : Sl, svs ⟨callF W Γ (n + 7), W⟩ q__law_right_1 [.bor (.lst [.int p, .int q]), .val (.int s), .val (.int k), .val (.lst (duD s k)), x4, x5, x6, x7] =
    some (.nxt, [.bor (.lst [.int p', .int q']), .val (.int s), .val (.int k), .val (.lst (duD s k)), x4, y5, y6, y7]) := by
  obtain ⟨h0, hs, hk⟩ := hm.lo
  have hN := hm.due.1
  have h1 : 1 ≤ s := by omega
  have hl : (duD s k).length = FN s 1 k := by unfold duD; rw [List.length_map, List.length_range]
  have hp : 0 < FN s 1 k := FN_pos h1 k 0
  obtain ⟨a, p', q', ha, ed⟩ := drawN (W := W) (n := n + 6) (p := p) (q := q) (many := (duD s k).length) (by omega) (by omega)
  have ha' : a < FN s 1 k := by omega
  have ix : sub (.lst (duD s k)) (.int a) = some (.lst ((bldC s k a).map wD)) := by
    have z : (duD s k)[a]? = some (.lst ((bldC s k a).map wD)) := by
      unfold duD
      rw [List.getElem?_map, List.getElem?_range ha']
      rfl
    rw [sub_lst ha, ← List.getElem?_eq_getElem ha, z]
  have ln : bfv .len [.lst (duD s k)] = some (.val (.int (duD s k).length)) := rfl
  have hf : Full s k (bldC s k a) := full_bld h1 ha'
  have pc : posC s k (bldC s k a) = a := wk_bld h1 ha'
  have e1 := cut_position_eq (W := W) (n := n) h0 hs hf (by omega) hW
  have e2 := cut_positionT (W := W) (n := n) h0 hs hf (by omega) hW
  rw [pc] at e1 e2
  have e3 := splits_of_eq (W := W) (n := n) h0 hs hf (by omega)
  have e4 := splits_ofT (W := W) (n := n) h0 hs hf (by omega)
  have e5 := tuple_ws (bldC s k a)
  have e6 := len_ws (bldC s k a)
  rw [Full.len h1 hf] at e6
  have e7 := lwords_eq (W := W) (n := n + 6) (s := s) (k := k) h0 hs (by omega)
  have e8 := cut_at_eq (W := W) (n := n + 2) h0 hs (show k ≤ 40 by omega) ha' hW
  have r4 := repr4 (a := a) (k := k) (by omega) (by omega)
  have r2 := repr2 (d := .lst ((bldC s k a).map wD)) (by
    have := (hm.wt hf).1
    rw [wsL, shw_lst] at this
    rw [shw_lst]
    exact shws_map wD _ _ fun w hw => shw_wD fun i hi => by have := Full.letters h1 hf w hw i hi; omega) (by have := (hm.wt hf).2; rw [wsL] at this; omega)
  refine ⟨p', q', .val (.int a), .val (.lst ((bldC s k a).map wD)), .own (.lst [.int a, .int a, .int k, .int k]), ?_⟩
  simp only [q__law_right_1]
  rw [svs_cons (ρ1 := [.bor (.lst [.int p', .int q']), .val (.int s), .val (.int k), .val (.lst (duD s k)), x4, .val (.int a), x6, x7]) (by
    simp [ln, ed, Sl.cell, Sl.to, entry, svs, ev.eq_1, ev.eq_2, ev.eq_3, ev.eq_4, ev.eq_5, ev.eq_6, ev.eq_7, ev.eq_8, ev.eq_9, ev.eq_10, ev.eq_11, ev.eq_12, ev.eq_13, ev.eq_14, ev.eq_15, ev.eq_16, ev.eq_17, ev.eq_18, ev.eq_19, ev.eq_20, ev.eq_21, ev.eq_22, ev.eq_23, ev.eq_24, ev.eq_25, ev.eq_26, sv.eq_1, sv.eq_2, sv.eq_3, sv.eq_4, sv.eq_5, sv.eq_6, sv.eq_7, sv.eq_10, sv.eq_11, sv.eq_12, sv.eq_13, evs, evp, evo, tv, itv_rng1, itv_rng2, itv_seq, itv_enum, items, callWith, arrange, rds, rd, after, stls, stl, immR, lite, D.imm, isTy, truth, leave, retv, keep, cop_lt, cop_gt, cop_le, cop_ge, cop_eq, cop_ne, bop_add, bop_sub])]
  rw [svs_cons (ρ1 := [.bor (.lst [.int p', .int q']), .val (.int s), .val (.int k), .val (.lst (duD s k)), x4, .val (.int a), .val (.lst ((bldC s k a).map wD)), x7]) (by
    simp [ix, entry, svs, ev.eq_1, ev.eq_2, ev.eq_3, ev.eq_4, ev.eq_5, ev.eq_6, ev.eq_7, ev.eq_8, ev.eq_9, ev.eq_10, ev.eq_11, ev.eq_12, ev.eq_13, ev.eq_14, ev.eq_15, ev.eq_16, ev.eq_17, ev.eq_18, ev.eq_19, ev.eq_20, ev.eq_21, ev.eq_22, ev.eq_23, ev.eq_24, ev.eq_25, ev.eq_26, sv.eq_1, sv.eq_2, sv.eq_3, sv.eq_4, sv.eq_5, sv.eq_6, sv.eq_7, sv.eq_10, sv.eq_11, sv.eq_12, sv.eq_13, evs, evp, evo, tv, itv_rng1, itv_rng2, itv_seq, itv_enum, items, callWith, arrange, rds, rd, after, stls, stl, immR, lite, D.imm, isTy, truth, leave, retv, keep, cop_lt, cop_gt, cop_le, cop_ge, cop_eq, cop_ne, bop_add, bop_sub])]
  rw [svs_cons (ρ1 := [.bor (.lst [.int p', .int q']), .val (.int s), .val (.int k), .val (.lst (duD s k)), x4, .val (.int a), .val (.lst ((bldC s k a).map wD)), .own (.lst [.int a, .int a, .int k, .int k])]) (by
    simp [e1, e2, e3, e4, e5, entry, svs, ev.eq_1, ev.eq_2, ev.eq_3, ev.eq_4, ev.eq_5, ev.eq_6, ev.eq_7, ev.eq_8, ev.eq_9, ev.eq_10, ev.eq_11, ev.eq_12, ev.eq_13, ev.eq_14, ev.eq_15, ev.eq_16, ev.eq_17, ev.eq_18, ev.eq_19, ev.eq_20, ev.eq_21, ev.eq_22, ev.eq_23, ev.eq_24, ev.eq_25, ev.eq_26, sv.eq_1, sv.eq_2, sv.eq_3, sv.eq_4, sv.eq_5, sv.eq_6, sv.eq_7, sv.eq_10, sv.eq_11, sv.eq_12, sv.eq_13, evs, evp, evo, tv, itv_rng1, itv_rng2, itv_seq, itv_enum, items, callWith, arrange, rds, rd, after, stls, stl, immR, lite, D.imm, isTy, truth, leave, retv, keep, cop_lt, cop_gt, cop_le, cop_ge, cop_eq, cop_ne, bop_add, bop_sub])]
  rw [svs_cons (ρ1 := [.bor (.lst [.int p', .int q']), .val (.int s), .val (.int k), .val (.lst (duD s k)), x4, .val (.int a), .val (.lst ((bldC s k a).map wD)), .own (.lst [.int a, .int a, .int k, .int k])]) (by
    simp [r4, ne_str, e6, e7, entry, svs, ev.eq_1, ev.eq_2, ev.eq_3, ev.eq_4, ev.eq_5, ev.eq_6, ev.eq_7, ev.eq_8, ev.eq_9, ev.eq_10, ev.eq_11, ev.eq_12, ev.eq_13, ev.eq_14, ev.eq_15, ev.eq_16, ev.eq_17, ev.eq_18, ev.eq_19, ev.eq_20, ev.eq_21, ev.eq_22, ev.eq_23, ev.eq_24, ev.eq_25, ev.eq_26, sv.eq_1, sv.eq_2, sv.eq_3, sv.eq_4, sv.eq_5, sv.eq_6, sv.eq_7, sv.eq_10, sv.eq_11, sv.eq_12, sv.eq_13, evs, evp, evo, tv, itv_rng1, itv_rng2, itv_seq, itv_enum, items, callWith, arrange, rds, rd, after, stls, stl, immR, lite, D.imm, isTy, truth, leave, retv, keep, cop_lt, cop_gt, cop_le, cop_ge, cop_eq, cop_ne, bop_add, bop_sub])]
  simp [e8, r2, ne_str, entry, svs, ev.eq_1, ev.eq_2, ev.eq_3, ev.eq_4, ev.eq_5, ev.eq_6, ev.eq_7, ev.eq_8, ev.eq_9, ev.eq_10, ev.eq_11, ev.eq_12, ev.eq_13, ev.eq_14, ev.eq_15, ev.eq_16, ev.eq_17, ev.eq_18, ev.eq_19, ev.eq_20, ev.eq_21, ev.eq_22, ev.eq_23, ev.eq_24, ev.eq_25, ev.eq_26, sv.eq_1, sv.eq_2, sv.eq_3, sv.eq_4, sv.eq_5, sv.eq_6, sv.eq_7, sv.eq_10, sv.eq_11, sv.eq_12, sv.eq_13, evs, evp, evo, tv, itv_rng1, itv_rng2, itv_seq, itv_enum, items, callWith, arrange, rds, rd, after, stls, stl, immR, lite, D.imm, isTy, truth, leave, retv, keep, cop_lt, cop_gt, cop_le, cop_ge, cop_eq, cop_ne, bop_add, bop_sub]
end
end G92

set_option linter.all false
set_option autoImplicit false
set_option Elab.async false
set_option maxRecDepth 100000
set_option maxHeartbeats 1000000
namespace G92
open PySem (Str)
open Z
section
variable {W n : Nat}
theorem right_eq {p q : Int} (hW : 1000 < W) : ∃ p' q' : Int, callF W Γ (n + 8) "_law_right" [.lst [.int p, .int q]] = some (.val (.bl true), some (.lst [.int p', .int q'])) := by
  obtain ⟨d1, p1, q1, a1, e1⟩ := drawN (W := W) (n := n + 6) (p := p) (q := q) (many := 3) (by decide) (by decide)
  obtain ⟨s, es⟩ : ∃ s : Nat, s = 2 + d1 := ⟨_, rfl⟩
  have es' : (2 : Int) + d1 = s := by omega
  obtain ⟨m, em, hm7⟩ : ∃ m : Nat, sub (.dic [(.int 2, .int 7), (.int 3, .int 5), (.int 4, .int 4)]) (.int s) = some (.int m) ∧ 0 < m ∧ m < 1000 ∧ ∀ k, k < m → Sm s k := by
    have : s = 2 ∨ s = 3 ∨ s = 4 := by omega
    rcases this with rfl | rfl | rfl
    · exact ⟨7, rfl, by decide, by decide, fun k hk => .inl ⟨rfl, hk⟩⟩
    · exact ⟨5, rfl, by decide, by decide, fun k hk => .inr (.inl ⟨rfl, hk⟩)⟩
    · exact ⟨4, rfl, by decide, by decide, fun k hk => .inr (.inr ⟨rfl, hk⟩)⟩
  obtain ⟨k, p2, q2, hk, e2⟩ := drawN (W := W) (n := n + 6) (p := p1) (q := q1) (many := m) hm7.1 (by omega)
  have hm := hm7.2.2 k hk
  obtain ⟨h0, hs, hk6⟩ := hm.lo
  have h1 : 1 ≤ s := by omega
  have hN := hm.due.1
  have hp : 0 < FN s 1 k := FN_pos h1 k 0
  have e3 := hm.due.2 W (n + 5)
  have e4 := all_cuts_eq (W := W) (n := n + 2) h0 hs (show k ≤ 40 by omega) hN hW
  rw [show (List.range (FN s 1 k)).map (fun i => wsL (bldC s k i)) = duD s k from rfl] at e4
  have e5 := cut_count_eq (W := W) (n := n + 2) h0 hs (show k ≤ 40 by omega)
  have ln : bfv .len [.lst (duD s k)] = some (.val (.int (FN s 1 k : Nat))) := by
    show some (RV.val (.int ((duD s k).length : Nat))) = _
    unfold duD
    rw [List.length_map, List.length_range]
  have r2 := repr2 (d := .lst (duD s k)) hm.du.1 (by have := hm.du.2; omega)
  have r1 : bfv .repr [.lst (duD s k)] = some (.val (.str (reprS (.lst (duD s k))))) := repr_v (by
    rw [shw_lst]
    exact shws_map _ _ _ fun i hi => shw_wsL fun w hw j hj => by have := Full.letters h1 (full_bld h1 (List.mem_range.mp hi)) w hw j hj; omega) (by have := hm.du.2; omega)
  have i8 : InR 8 := inR (by decide) (by decide)
  obtain ⟨ρF, e6, p3, q3, x4, x5, x6, x7, rfl⟩ := forF_rng (lo := 0) (n := 8) (g := Lg ⟨callF W Γ (n + 7), W⟩ (.nm 4)) (b := Lb ⟨callF W Γ (n + 7), W⟩ q__law_right_1) (ρ0 := [.bor (.lst [.int p2, .int q2]), .val (.int s), .val (.int k), .val (.lst (duD s k)), .no, .no, .no, .no])
    (fun _ ρ => ∃ p q : Int, ∃ x4 x5 x6 x7 : Sl, ρ = [.bor (.lst [.int p, .int q]), .val (.int s), .val (.int k), .val (.lst (duD s k)), x4, x5, x6, x7]) ⟨_, _, _, _, _, _, rfl⟩ fun i ρ hi ⟨p, q, x4, x5, x6, x7, e⟩ => by
      subst e
      obtain ⟨p', q', y5, y6, y7, e⟩ := q1_eq (W := W) (n := n) (p := p) (q := q) (x4 := .val (.int (0 + (i : Int)))) (x5 := x5) (x6 := x6) (x7 := x7) hm hW
      exact ⟨[.bor (.lst [.int p, .int q]), .val (.int s), .val (.int k), .val (.lst (duD s k)), .val (.int (0 + (i : Int))), x5, x6, x7], _, by simp [Lg, gv], e, _, _, _, _, _, _, rfl⟩
  obtain ⟨ws, p4, q4, hf, e8⟩ := lcut_eq (W := W) (n := n + 5) (s := s) (k := k) (p := p3) (q := q3) h0 hs (by omega)
  have so := sorted_ws h0 hf
  have pos := cut_position_eq (W := W) (n := n) h0 hs hf (by omega) hW
  have ixv := index_v h0 hf
  have at0 : (duD s k)[0]? = some (.lst ((bldC s k 0).map wD)) := by
    unfold duD
    rw [List.getElem?_map, List.getElem?_range hp]
    rfl
  have len0 : ((bldC s k 0).map wD).length < LL := by
    have z : (bldC s k 0).length = (s - 1) * k + 1 := Full.len h1 (full_bld h1 hp)
    rw [List.length_map, z]
    have : (s - 1) * k ≤ 3 * 6 := Nat.mul_le_mul (by omega) hk6
    exact Nat.lt_of_le_of_lt (show (s - 1) * k + 1 ≤ 19 by omega) (by decide)
  have lenD : (duD s k).length < LL := by
    unfold duD
    rw [List.length_map, List.length_range]
    exact Nat.lt_of_le_of_lt hN (by decide)
  have sk0 : skD (.lst (duD s k)) [0] = true := by
    rw [skD, at0, decide_eq_true lenD]
    dsimp only
    rw [skD, decide_eq_true len0]
    rfl
  have sk1 : skD (.lst (duD s k)) [] = true := by rw [skD, decide_eq_true lenD]
  have f429 : FN 2 1 7 = 429 := by rw [FN_c]; decide +kernel
  have e9 := all_cuts_eq (W := W) (n := n + 2) (s := 2) (splits := 7) (by decide) (by decide) (by decide) (by rw [f429]; decide) hW
  have l429 : bfv .len [.lst ((List.range (FN 2 1 7)).map fun i => wsL (bldC 2 7 i))] = some (.val (.int 429)) := by
    show some (RV.val (.int (((List.range (FN 2 1 7)).map fun i => wsL (bldC 2 7 i)).length : Nat))) = _
    rw [List.length_map, List.length_range, f429]
    rfl
  generalize (List.range (FN 2 1 7)).map (fun i => wsL (bldC 2 7 i)) = big at e9 l429
  refine ⟨p4, q4, ?_⟩
  rw [callF_go g__law_right rfl]
  simp only [b__law_right]
  rw [svs_cons (ρ1 := [.bor (.lst [.int p1, .int q1]), .val (.int s), .no, .no, .no, .no, .no, .no]) (by
    simp only [Int.cast_ofNat_Int] at e1
    simp [e1, es', Sl.cell, Sl.to, entry, svs, ev.eq_1, ev.eq_2, ev.eq_3, ev.eq_4, ev.eq_5, ev.eq_6, ev.eq_7, ev.eq_8, ev.eq_9, ev.eq_10, ev.eq_11, ev.eq_12, ev.eq_13, ev.eq_14, ev.eq_15, ev.eq_16, ev.eq_17, ev.eq_18, ev.eq_19, ev.eq_20, ev.eq_21, ev.eq_22, ev.eq_23, ev.eq_24, ev.eq_25, ev.eq_26, sv.eq_1, sv.eq_2, sv.eq_3, sv.eq_4, sv.eq_5, sv.eq_6, sv.eq_7, sv.eq_10, sv.eq_11, sv.eq_12, sv.eq_13, evs, evp, evo, tv, itv_rng1, itv_rng2, itv_seq, itv_enum, items, callWith, arrange, rds, rd, after, stls, stl, immR, lite, D.imm, isTy, truth, leave, retv, keep, cop_lt, cop_gt, cop_le, cop_ge, cop_eq, cop_ne, bop_add, bop_sub])]
  rw [svs_cons (ρ1 := [.bor (.lst [.int p2, .int q2]), .val (.int s), .val (.int k), .no, .no, .no, .no, .no]) (by
    simp [dput, D.eqv, em, e2, Sl.cell, Sl.to, entry, svs, ev.eq_1, ev.eq_2, ev.eq_3, ev.eq_4, ev.eq_5, ev.eq_6, ev.eq_7, ev.eq_8, ev.eq_9, ev.eq_10, ev.eq_11, ev.eq_12, ev.eq_13, ev.eq_14, ev.eq_15, ev.eq_16, ev.eq_17, ev.eq_18, ev.eq_19, ev.eq_20, ev.eq_21, ev.eq_22, ev.eq_23, ev.eq_24, ev.eq_25, ev.eq_26, sv.eq_1, sv.eq_2, sv.eq_3, sv.eq_4, sv.eq_5, sv.eq_6, sv.eq_7, sv.eq_10, sv.eq_11, sv.eq_12, sv.eq_13, evs, evp, evo, tv, itv_rng1, itv_rng2, itv_seq, itv_enum, items, callWith, arrange, rds, rd, after, stls, stl, immR, lite, D.imm, isTy, truth, leave, retv, keep, cop_lt, cop_gt, cop_le, cop_ge, cop_eq, cop_ne, bop_add, bop_sub])]
  rw [svs_cons (ρ1 := [.bor (.lst [.int p2, .int q2]), .val (.int s), .val (.int k), .own (.lst (duD s k)), .no, .no, .no, .no]) (by simp [e3, entry, svs, ev.eq_1, ev.eq_2, ev.eq_3, ev.eq_4, ev.eq_5, ev.eq_6, ev.eq_7, ev.eq_8, ev.eq_9, ev.eq_10, ev.eq_11, ev.eq_12, ev.eq_13, ev.eq_14, ev.eq_15, ev.eq_16, ev.eq_17, ev.eq_18, ev.eq_19, ev.eq_20, ev.eq_21, ev.eq_22, ev.eq_23, ev.eq_24, ev.eq_25, ev.eq_26, sv.eq_1, sv.eq_2, sv.eq_3, sv.eq_4, sv.eq_5, sv.eq_6, sv.eq_7, sv.eq_10, sv.eq_11, sv.eq_12, sv.eq_13, evs, evp, evo, tv, itv_rng1, itv_rng2, itv_seq, itv_enum, items, callWith, arrange, rds, rd, after, stls, stl, immR, lite, D.imm, isTy, truth, leave, retv, keep, cop_lt, cop_gt, cop_le, cop_ge, cop_eq, cop_ne, bop_add, bop_sub])]
  rw [svs_cons (ρ1 := [.bor (.lst [.int p2, .int q2]), .val (.int s), .val (.int k), .val (.lst (duD s k)), .no, .no, .no, .no]) (by simp [e4, e5, r2, ln, ne_str, entry, svs, ev.eq_1, ev.eq_2, ev.eq_3, ev.eq_4, ev.eq_5, ev.eq_6, ev.eq_7, ev.eq_8, ev.eq_9, ev.eq_10, ev.eq_11, ev.eq_12, ev.eq_13, ev.eq_14, ev.eq_15, ev.eq_16, ev.eq_17, ev.eq_18, ev.eq_19, ev.eq_20, ev.eq_21, ev.eq_22, ev.eq_23, ev.eq_24, ev.eq_25, ev.eq_26, sv.eq_1, sv.eq_2, sv.eq_3, sv.eq_4, sv.eq_5, sv.eq_6, sv.eq_7, sv.eq_10, sv.eq_11, sv.eq_12, sv.eq_13, evs, evp, evo, tv, itv_rng1, itv_rng2, itv_seq, itv_enum, items, callWith, arrange, rds, rd, after, stls, stl, immR, lite, D.imm, isTy, truth, leave, retv, keep, cop_lt, cop_gt, cop_le, cop_ge, cop_eq, cop_ne, bop_add, bop_sub])]
  rw [svs_cons (ρ1 := [.bor (.lst [.int p3, .int q3]), .val (.int s), .val (.int k), .val (.lst (duD s k)), x4, x5, x6, x7]) (by
    simp only [sv_for]
    simp [i8, e6, entry, svs, ev.eq_1, ev.eq_2, ev.eq_3, ev.eq_4, ev.eq_5, ev.eq_6, ev.eq_7, ev.eq_8, ev.eq_9, ev.eq_10, ev.eq_11, ev.eq_12, ev.eq_13, ev.eq_14, ev.eq_15, ev.eq_16, ev.eq_17, ev.eq_18, ev.eq_19, ev.eq_20, ev.eq_21, ev.eq_22, ev.eq_23, ev.eq_24, ev.eq_25, ev.eq_26, sv.eq_1, sv.eq_2, sv.eq_3, sv.eq_4, sv.eq_5, sv.eq_6, sv.eq_7, sv.eq_10, sv.eq_11, sv.eq_12, sv.eq_13, evs, evp, evo, tv, itv_rng1, itv_rng2, itv_seq, itv_enum, items, callWith, arrange, rds, rd, after, stls, stl, immR, lite, D.imm, isTy, truth, leave, retv, keep, cop_lt, cop_gt, cop_le, cop_ge, cop_eq, cop_ne, bop_add, bop_sub])]
  rw [svs_cons (ρ1 := [.bor (.lst [.int p4, .int q4]), .val (.int s), .val (.int k), .val (.lst (duD s k)), x4, x5, .own (.lst (ws.map wD)), x7]) (by
    simp [e8, so, Sl.cell, Sl.to, entry, svs, ev.eq_1, ev.eq_2, ev.eq_3, ev.eq_4, ev.eq_5, ev.eq_6, ev.eq_7, ev.eq_8, ev.eq_9, ev.eq_10, ev.eq_11, ev.eq_12, ev.eq_13, ev.eq_14, ev.eq_15, ev.eq_16, ev.eq_17, ev.eq_18, ev.eq_19, ev.eq_20, ev.eq_21, ev.eq_22, ev.eq_23, ev.eq_24, ev.eq_25, ev.eq_26, sv.eq_1, sv.eq_2, sv.eq_3, sv.eq_4, sv.eq_5, sv.eq_6, sv.eq_7, sv.eq_10, sv.eq_11, sv.eq_12, sv.eq_13, evs, evp, evo, tv, itv_rng1, itv_rng2, itv_seq, itv_enum, items, callWith, arrange, rds, rd, after, stls, stl, immR, lite, D.imm, isTy, truth, leave, retv, keep, cop_lt, cop_gt, cop_le, cop_ge, cop_eq, cop_ne, bop_add, bop_sub])]
  rw [svs_cons (ρ1 := [.bor (.lst [.int p4, .int q4]), .val (.int s), .val (.int k), .val (.lst (duD s k)), x4, x5, .own (.lst (ws.map wD)), x7]) (by
    simp [pos, mtOk, ixv, entry, svs, ev.eq_1, ev.eq_2, ev.eq_3, ev.eq_4, ev.eq_5, ev.eq_6, ev.eq_7, ev.eq_8, ev.eq_9, ev.eq_10, ev.eq_11, ev.eq_12, ev.eq_13, ev.eq_14, ev.eq_15, ev.eq_16, ev.eq_17, ev.eq_18, ev.eq_19, ev.eq_20, ev.eq_21, ev.eq_22, ev.eq_23, ev.eq_24, ev.eq_25, ev.eq_26, sv.eq_1, sv.eq_2, sv.eq_3, sv.eq_4, sv.eq_5, sv.eq_6, sv.eq_7, sv.eq_10, sv.eq_11, sv.eq_12, sv.eq_13, evs, evp, evo, tv, itv_rng1, itv_rng2, itv_seq, itv_enum, items, callWith, arrange, rds, rd, after, stls, stl, immR, lite, D.imm, isTy, truth, leave, retv, keep, cop_lt, cop_gt, cop_le, cop_ge, cop_eq, cop_ne, bop_add, bop_sub])]
  rw [svs_cons (ρ1 := [.bor (.lst [.int p4, .int q4]), .val (.int s), .val (.int k), .val (.lst (duD s k)), x4, x5, .own (.lst (ws.map wD)), .no]) (by
    rw [sv.eq_14]
    simp [e4, sk0, sk1, D.bares, D.bare, entry, svs, ev.eq_1, ev.eq_2, ev.eq_3, ev.eq_4, ev.eq_5, ev.eq_6, ev.eq_7, ev.eq_8, ev.eq_9, ev.eq_10, ev.eq_11, ev.eq_12, ev.eq_13, ev.eq_14, ev.eq_15, ev.eq_16, ev.eq_17, ev.eq_18, ev.eq_19, ev.eq_20, ev.eq_21, ev.eq_22, ev.eq_23, ev.eq_24, ev.eq_25, ev.eq_26, sv.eq_1, sv.eq_2, sv.eq_3, sv.eq_4, sv.eq_5, sv.eq_6, sv.eq_7, sv.eq_10, sv.eq_11, sv.eq_12, sv.eq_13, evs, evp, evo, tv, itv_rng1, itv_rng2, itv_seq, itv_enum, items, callWith, arrange, rds, rd, after, stls, stl, immR, lite, D.imm, isTy, truth, leave, retv, keep, cop_lt, cop_gt, cop_le, cop_ge, cop_eq, cop_ne, bop_add, bop_sub])]
  simp only [Int.cast_ofNat_Int] at e9
  simp [e4, e9, r1, eq_str, l429, Sl.cell, entry, svs, ev.eq_1, ev.eq_2, ev.eq_3, ev.eq_4, ev.eq_5, ev.eq_6, ev.eq_7, ev.eq_8, ev.eq_9, ev.eq_10, ev.eq_11, ev.eq_12, ev.eq_13, ev.eq_14, ev.eq_15, ev.eq_16, ev.eq_17, ev.eq_18, ev.eq_19, ev.eq_20, ev.eq_21, ev.eq_22, ev.eq_23, ev.eq_24, ev.eq_25, ev.eq_26, sv.eq_1, sv.eq_2, sv.eq_3, sv.eq_4, sv.eq_5, sv.eq_6, sv.eq_7, sv.eq_10, sv.eq_11, sv.eq_12, sv.eq_13, evs, evp, evo, tv, itv_rng1, itv_rng2, itv_seq, itv_enum, items, callWith, arrange, rds, rd, after, stls, stl, immR, lite, D.imm, isTy, truth, leave, retv, keep, cop_lt, cop_gt, cop_le, cop_ge, cop_eq, cop_ne, bop_add, bop_sub]
end
section
variable {W n : Nat}
theorem law_body {ns : List Int} {k : Nat} {a : Sl} (hk : k < 1000) (hW : 1000 < W) : svs ⟨callF W Γ (n + 9), W⟩ q_law_1 [.val (.scr ns), .val (.int k)] = some (.nxt, [.val (.scr ns), .val (.int k)]) := by
  obtain ⟨p, q, e⟩ := pot_eq (W := W) (n := n + 8) (ns := ns) (k := k) hk
  obtain ⟨p1, q1, e1⟩ := right_eq (W := W) (n := n + 1) (p := p) (q := q) hW
  simp only [q_law_1]
  simp [e, e1, Sl.cell, Sl.to, entry, svs, ev.eq_1, ev.eq_2, ev.eq_3, ev.eq_4, ev.eq_5, ev.eq_6, ev.eq_7, ev.eq_8, ev.eq_9, ev.eq_10, ev.eq_11, ev.eq_12, ev.eq_13, ev.eq_14, ev.eq_15, ev.eq_16, ev.eq_17, ev.eq_18, ev.eq_19, ev.eq_20, ev.eq_21, ev.eq_22, ev.eq_23, ev.eq_24, ev.eq_25, ev.eq_26, sv.eq_1, sv.eq_2, sv.eq_3, sv.eq_4, sv.eq_5, sv.eq_6, sv.eq_7, sv.eq_10, sv.eq_11, sv.eq_12, sv.eq_13, sv_for, sv_whl, ev_comp, evs, evp, evo, tv, itv_rng1, itv_rng2, itv_seq, itv_enum, items, callWith, arrange, rds, rd, after, stls, stl, immR, lite, D.imm, isTy, truth, leave, retv, keep, cop_lt, cop_gt, cop_le, cop_ge, cop_eq, cop_ne, bop_add, bop_sub]
theorem pure_law (ns : List Int) (h : ns.length ≤ 63) : callF 1000000 Γ 12 "law" [.scr ns] = some (.val (.bl true), none) := by
  rw [callF_go g_law rfl]
  simp only [b_law]
  obtain ⟨m, hm, em⟩ : ∃ m : Nat, m ≤ 3 ∧ (if (if (ns.length : Int) < 3 then (ns.length : Int) else 3) > 1 then (if (ns.length : Int) < 3 then (ns.length : Int) else 3) else 1) = m := by
    refine ⟨(if (if (ns.length : Int) < 3 then (ns.length : Int) else 3) > 1 then (if (ns.length : Int) < 3 then (ns.length : Int) else 3) else 1).toNat, ?_, ?_⟩ <;> (split <;> split <;> omega)
  obtain ⟨ρF, e, a, rfl⟩ := forF_rng (lo := 0) (n := m) (g := Lg ⟨callF 1000000 Γ 11, 1000000⟩ (.nm 1)) (b := Lb ⟨callF 1000000 Γ 11, 1000000⟩ q_law_1)
    (ρ0 := [.val (.scr ns), .no]) (fun i ρ => ∃ a, ρ = [.val (.scr ns), a]) ⟨_, rfl⟩ fun i ρ hi ⟨a, e⟩ => by
      subst e
      have e := law_body (W := 1000000) (n := 2) (ns := ns) (k := i) (a := a) (by omega) (by omega)
      refine ⟨[.val (.scr ns), .val (.int i)], _, by simp [Lg, gv], e, _, rfl⟩
  have im : InR (m : Int) := inR (by omega) (by omega)
  rw [svs_cons (ρ1 := [.val (.scr ns), a]) (by
    simp [bfv, em, im, e, sv_for, entry, svs, ev.eq_1, ev.eq_2, ev.eq_3, ev.eq_4, ev.eq_5, ev.eq_6, ev.eq_7, ev.eq_8, ev.eq_9, ev.eq_10, ev.eq_11, ev.eq_12, ev.eq_13, ev.eq_14, ev.eq_15, ev.eq_16, ev.eq_17, ev.eq_18, ev.eq_19, ev.eq_20, ev.eq_21, ev.eq_22, ev.eq_23, ev.eq_24, ev.eq_25, ev.eq_26, sv.eq_1, sv.eq_2, sv.eq_3, sv.eq_4, sv.eq_5, sv.eq_6, sv.eq_7, sv.eq_10, sv.eq_11, sv.eq_12, sv.eq_13, evs, evp, evo, tv, itv_rng1, itv_rng2, itv_seq, itv_enum, items, callWith, arrange, rds, rd, after, stls, stl, immR, lite, D.imm, isTy, truth, leave, retv, keep, cop_lt, cop_gt, cop_le, cop_ge, cop_eq, cop_ne, bop_add, bop_sub])]
  simp [entry, svs, ev.eq_1, ev.eq_2, ev.eq_3, ev.eq_4, ev.eq_5, ev.eq_6, ev.eq_7, ev.eq_8, ev.eq_9, ev.eq_10, ev.eq_11, ev.eq_12, ev.eq_13, ev.eq_14, ev.eq_15, ev.eq_16, ev.eq_17, ev.eq_18, ev.eq_19, ev.eq_20, ev.eq_21, ev.eq_22, ev.eq_23, ev.eq_24, ev.eq_25, ev.eq_26, sv.eq_1, sv.eq_2, sv.eq_3, sv.eq_4, sv.eq_5, sv.eq_6, sv.eq_7, sv.eq_10, sv.eq_11, sv.eq_12, sv.eq_13, evs, evp, evo, tv, itv_rng1, itv_rng2, itv_seq, itv_enum, items, callWith, arrange, rds, rd, after, stls, stl, immR, lite, D.imm, isTy, truth, leave, retv, keep, cop_lt, cop_gt, cop_le, cop_ge, cop_eq, cop_ne, bop_add, bop_sub]
end
end G92

namespace G92
open PySem PySem.Spec PyProof.Rows L2 Z
def looseN : List PySem.Str := (["SwapError", "StateError", "LimitError", "InvalidSize", "InvalidCut", "InvalidMany", "InvalidPosition", "NotFull", "TooMany", "is_integer", "is_count", "is_list", "want_many", "want_at_most", "LEAST_SIZE", "MOST_SIZE", "MOST_LETTERS", "MOST_WORDS", "is_size_value", "want_size", "is_word_value", "are_words_value", "begins", "split_of", "times", "is_cut_value", "share_of", "is_full_cut", "MOST_SPLITS", "MOST_LISTED"] : List PySem.Str) ++ (["choose", "forests", "walked", "built", "listed", "want_splits", "want_words", "want_full", "cut_count", "all_cuts", "splits_of", "cut_position", "cut_at", "_law_pot", "_law_draw", "_law_pick", "_law_words", "_law_split", "_law_cut", "_law_all_cuts", "_law_right"] : List PySem.Str)
def AS : List Addr := [3, 6, 4, 24, 37, 50, 70, 89, 108, 127, 139, 158, 167, 174, 181, 189, 196, 203, 210, 215, 220, 227, 232, 239, 244, 249, 256, 263, 270, 275, 282, 287, 294, 301, 308, 315, 322, 329, 336, 343, 350, 357, 364, 371, 376, 383, 388, 395, 402, 0, 23, 36, 49, 69, 88, 107, 126, 138, 157, 166, 173, 180, 188, 182, 195, 202, 209, 214, 219, 226, 231, 238, 243, 248, 255, 262, 269, 274, 281, 286, 293, 300, 307, 314, 321, 328, 335, 342, 349, 356, 363, 370, 375, 382, 387, 394, 401]
abbrev R : PySem.W.OpenRow := PySem.W.OpenLaw.row PySem.Challenge.rw_beginningswaps_k92_whole_lists_of_cuts
abbrev hk : PySem.W.Hook := hookZ AS LD FREE CNS
def ob (s : PySem.W.SharedT) : Bool × List He.FnW := obsZG AS LD FREE CNS (HandSHeadRun.getT s)
theorem ob_eq (s : PySem.W.SharedT) : ob s = hk.obs s.abs := obsZG_eq (HandSHeadRun.getT_eq s)
theorem run (w : World) : HandSHeadRun.RunEq R (PySem.W.view R.prog [57]) hk ob 4000 looseN w := by
  intro os
  kernel_rfl
end G92
namespace G92
open PySem PySem.Spec PyProof.Rows L2 Z
theorem bind_law (kV doc pm : Value) (an : Option Addr) (cdv ct : Value) (us : List Value) (hl : us.length = 1) : bindArgs (PySem.W.fnOf d_law.x d_law.x d_law.args d_law.body d_law.scope .none kV doc pm an cdv ct) ⟨us, []⟩ = pure (d_law.ps.zip us) := match us, hl with
  | [_], _ => by kernel_rfl
end G92
open PySem PySem.W PySem.Calls PyProof.Rows
theorem PySem.Challenge.cw_beginningswaps_k92_whole_lists_of_cuts_holds : PySem.Challenge.rw_beginningswaps_k92_whole_lists_of_cuts.Holds := by
  w_on; o_law
  refine HandSHeadRun.head_any (r := OpenLaw.row PySem.Challenge.rw_beginningswaps_k92_whole_lists_of_cuts) (q := view (OpenLaw.row PySem.Challenge.rw_beginningswaps_k92_whole_lists_of_cuts).prog [57]) (H := G92.hk) (ob := G92.ob) (M := 4000) (loose := G92.looseN) (d := HandSHeadRun.topDef (OpenLaw.row PySem.Challenge.rw_beginningswaps_k92_whole_lists_of_cuts).prog 57) (kwd := []) G92.ob_eq
    (by kernel_rfl) (fun s => by kernel_rfl) G92.run (by kernel_rfl) (by kernel_rfl) (by kernel_rfl) (by rfl) (by first | assumption | decide +kernel) (by decide +kernel) ⟨rfl, rfl, rfl, rfl, rfl, by decide +kernel⟩ ?hw ?hc
  case hw => w_witness2
  case hc =>
    refine Z.walkG (l := PySem.Challenge.rw_beginningswaps_k92_whole_lists_of_cuts) (n := 63) (k := 12) (x := "script") rfl (by decide) (by kernel_rfl) ⟨rfl, by decide, by decide⟩ ?_
    intro w mg fa h Y G hmg0
    obtain ⟨K, KX, c⟩ := Y
    have hmg : mg G92.d_law.x = some (.ref fa) := by
      have e : (HandSHeadRun.topDef (OpenLaw.row PySem.Challenge.rw_beginningswaps_k92_whole_lists_of_cuts).prog 57).name = G92.d_law.x := by kernel_rfl
      rw [← e]
      exact hmg0
    obtain ⟨fd, hb, hF⟩ := Z.law_facts (P := (PySem.Challenge.rw_beginningswaps_k92_whole_lists_of_cuts).prog) (w := w) (W := 1000000) (n := 12) KX G c G92.okL G92.shL G92.shA (d := G92.d_law) (List.mem_of_getElem? (i := 36) rfl) hmg rfl G92.bind_law rfl
    exact ⟨K, fd, _, KX, hb, fun H a ns hl _ hS => Z.law_sp G92.pure_law hl hS, hF⟩

