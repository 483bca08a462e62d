import PyProof.Rows.All
import Wide.All
import OpenK.AllK
import Wide.FinOn
import HandS.ForMost
import HandS.Wide
import HandS.TupAny
import HandS.TupMul
import HandS.IsInst
import HandS.Style
import HandS.Rev
import KE.DataFind
import KE.DataAny
import HandS.Deep
import KE.KRevSl
import KE.KTupSum
import HandS.RaiseMore
import HandS.Iter
import KE.GoesEnum
import KE.GoesZip
import KE.GoesMore
import HandS.Comp
import HandS.Call
import HandS.Exc
import HandS.Defaults
import HandS.HeadHook2
import HandS.Ends
import HandS.Head0
import HandS.Head1
import HandS.Head2
import HandS.HeadEnd
import KE.Datum
import KE.KStateDown
import PySem.Challenge.RW_seatsdue_k58_whole_offs_of_rows
section
set_option Elab.async false
set_option linter.all false
set_option maxRecDepth 100000
/-! MiA: a small Python of its own: data, memory, compiled text, its evaluator. -/
namespace Mi
open PySem

/-- data: numbers, texts, tuples by value; lists and dicts by place (obj) -/
inductive D where
  | non | bl (b : Bool) | int (i : Int) | str (s : Str) | tup (xs : List D) | pr (xs : List D) | rol (xs : List D) | obj (n : Nat) | fn (f : Nat) | ty (t : String)
inductive MO where
  | lst (xs : List D) | dct (kvs : List (D × D))
abbrev Mem := List MO
abbrev Env := List (Option D)
/-- an error: its class (by number), what it keeps -/
structure Exn where
  cls : Nat
  val : Option D
inductive Res (α : Type) where
  | ok (a : α) (M : Mem) | ex (x : Exn) (M : Mem) | bad
def Res.bind {α β : Type} (r : Res α) (f : α → Mem → Res β) : Res β :=
  match r with
  | .ok a M => f a M
  | .ex x M => .ex x M
  | .bad => .bad
def Res.noex {α : Type} (r : Res α) : Res α :=
  match r with
  | .ok a M => .ok a M
  | _ => .bad
inductive Out where
  | nx (ρ : Env) (M : Mem) | ret (d : D) (M : Mem) | brk (ρ : Env) (M : Mem) | cnt (ρ : Env) (M : Mem) | ex (x : Exn) (ρ : Env) (M : Mem) | bad
def Res.out {α : Type} (r : Res α) (ρ : Env) (f : α → Mem → Out) : Out :=
  match r with
  | .ok a M => f a M
  | .ex x M => .ex x ρ M
  | .bad => .bad
def Out.next (o : Out) (f : Env → Mem → Out) : Out :=
  match o with
  | .nx ρ M => f ρ M
  | o => o

/-- built-in functions -/
inductive BF where
  | len | abs | int | tuple | list | sum | max | min | all | any | sorted | repr | dict
  | isInt | isBool | isTuple | isStr | isList | isDict
  deriving DecidableEq
/-- methods -/
inductive MF where
  | append | extend | pop | count | get | insert
  deriving DecidableEq
/-- targets -/
inductive T where
  | nm (i : Nat) | tup (ts : List T)

mutual
inductive E where
  | var (i : Nat)
  | con (d : D)
  | bin (op : Operator) (a b : E)
  | neg (a : E)
  | not (a : E)
  | tst (a : E)
  | cmp (op : CmpOp) (a b : E)
  | chn (op op' : CmpOp) (a b c : E)
  | and (a b : E)
  | or (a b : E)
  | ite (c a b : E)
  | tup (es : Es)
  | lst (es : Es)
  | idx (a b : E)
  | slcA (a : E)
  | slcF (a lo : E)
  | slcT (a hi : E)
  | slcB (a lo hi : E)
  | slc3 (a : E) (k : Nat)
  | call (f : Nat) (es : Es)
  | callv (i : Nat) (es : Es)
  | blt (b : BF) (es : Es)
  | mth (m : MF) (a : E) (es : Es)
  | lc (elt : E) (t : T) (it : It) (own : List Nat)
  | lci (elt : E) (t : T) (it : It) (c : E) (own : List Nat)
  | dnew
inductive Es where
  | nil
  | cons (e : E) (es : Es)
/-- what a loop walks -/
inductive It where
  | val (e : E)
  | rng1 (e : E)
  | rng2 (a b : E)
  | enum (e : E)
  | zip (a b : E)
end

mutual
inductive S where
  | asg (t : T) (e : E)
  | par (i j : Nat) (a b : E)
  | sset (o i e : E)
  | aug (i : Nat) (op : Operator) (e : E)
  | augS (o i : E) (op : Operator) (e : E)
  | ife (c : E) (a b : Ss)
  | whl (c : E) (b : Ss)
  | fr (t : T) (it : It) (b : Ss)
  | ret (e : E)
  | exp (e : E)
  | brk
  | cnt
  | pas
  | rai
inductive Ss where
  | nil
  | cons (s : S) (r : Ss)
end

/-- the longest list -/
def LIM : Nat := 16777216
/-- below this all products and quotients are -/
def NUM : Nat := 2 ^ 8000
def WF : Nat := 2 ^ 8000

def ofOpt {α : Type} (o : Option α) (M : Mem) : Res α :=
  match o with
  | some a => .ok a M
  | none => .bad
def alloc (o : MO) (M : Mem) : Res D := .ok (.obj M.length) (M ++ [o])

/-- an int is wanted -/
def intR {α : Type} (d : D) (f : Int → Res α) : Res α :=
  match d with
  | .int i => f i
  | _ => .bad
/-- data as a tree without places, to so deep -/
def py (M : Mem) : Nat → D → Option PyData
  | 0, _ => none
  | n + 1, d => match d with
    | .non => some .none
    | .bl b => some (.bool b)
    | .int i => some (.int i)
    | .str s => if PyData.canLay0 (.str s) then some (.str s) else none
    | .tup xs => (xs.mapM (py M n)).map .tuple
    | .rol xs => (xs.mapM (py M n)).map .list
    | .obj a => match M[a]? with
      | some (.lst xs) => (xs.mapM (py M n)).map .list
      | _ => none
    | .pr _ => none
    | .fn _ => none
    | .ty _ => none
def DEEP : Nat := 9

/-- a list's items -/
def lstO (M : Mem) (a : Nat) : Option (List D) :=
  match M[a]? with
  | some (.lst xs) => some xs
  | _ => none
/-- a sequence's items -/
def items (d : D) (M : Mem) : Option (List D) :=
  match d with
  | .tup xs => some xs
  | .rol xs => some xs
  | .obj a => lstO M a
  | _ => none

/-- a value's truth -/
def truth (d : D) (M : Mem) : Option Bool :=
  match d with
  | .non => some false
  | .bl b => some b
  | .int i => some (i != 0)
  | d => (items d M).map fun xs => !xs.isEmpty

def binI (op : Operator) (i j : Int) (M : Mem) : Res D :=
  match op with
  | .Add => .ok (.int (i + j)) M
  | .Sub => .ok (.int (i - j)) M
  | .Mult => if i.natAbs < NUM ∧ j.natAbs < NUM then .ok (.int (i * j)) M else .bad
  | .FloorDiv => if 0 < j ∧ i.natAbs < NUM ∧ j.natAbs < NUM then .ok (.int (i / j)) M else .bad
  | .Mod => if 0 < j then .ok (.int (i % j)) M else .bad
  | .Pow => if 0 ≤ j ∧ j ≤ 1000000 ∧ i.natAbs < 2 ^ 64 then .ok (.int (i ^ j.toNat)) M else .bad
  | _ => .bad
def binop (op : Operator) (x y : D) (M : Mem) : Res D :=
  match x, y with
  | .int i, .int j => binI op i j M
  | .tup xs, .tup ys => if op = .Add ∧ xs.length + ys.length ≤ LIM then .ok (.tup (xs ++ ys)) M else .bad
  | .str x, .str y => if op = .Add ∧ x.length + y.length ≤ LIM then .ok (.str (x ++ y)) M else .bad
  | .obj a, .obj b => match M[a]?, M[b]? with
    | some (.lst xs), some (.lst ys) => if op = .Add ∧ xs.length + ys.length ≤ LIM then alloc (.lst (xs ++ ys)) M else .bad
    | _, _ => .bad
  | .obj a, .int k => match M[a]? with
    | some (.lst xs) => if op = .Mult ∧ k < 1000000 ∧ -1000000 < k ∧ xs.length * k.toNat ≤ LIM then alloc (.lst (List.replicate k.toNat xs).flatten) M else .bad
    | _ => .bad
  | .tup xs, .int k => if op = .Mult ∧ 2 ≤ k ∧ k ≤ 1000 ∧ xs.length ≤ 1000 ∧ xs.length ≠ 0 then .ok (.tup (List.replicate k.toNat xs).flatten) M else .bad
  | _, _ => .bad

def isNon : D → Bool
  | .non => true
  | _ => false
/-- == -/
def eqO (x y : D) (M : Mem) : Option Bool :=
  match x, y with
  | .int i, .int j => some (decide (i = j))
  | .str i, .str j => some (decide (i = j))
  | x, y => (py M DEEP x).bind fun p => (py M DEEP y).map fun q => PyData.eqv p q
/-- in -/
def memO (x y : D) (M : Mem) : Option Bool :=
  (py M DEEP x).bind fun p => (py M DEEP y).bind fun q => match q with
    | .list ps => some (ps.any fun z => PyData.eqv z p)
    | _ => none
def ordO (f : Int → Int → Bool) (x y : D) : Option Bool :=
  match x, y with
  | .int i, .int j => some (f i j)
  | _, _ => none
def cmpO (op : CmpOp) (x y : D) (M : Mem) : Option Bool :=
  match op with
  | .Eq => eqO x y M
  | .NotEq => (eqO x y M).map fun b => !b
  | .Lt => ordO (fun i j => decide (i < j)) x y
  | .LtE => ordO (fun i j => decide (i ≤ j)) x y
  | .Gt => ordO (fun i j => decide (j < i)) x y
  | .GtE => ordO (fun i j => decide (j ≤ i)) x y
  | .Is => if isNon y then some (isNon x) else none
  | .IsNot => if isNon y then some (!isNon x) else none
  | .In => memO x y M
  | .NotIn => (memO x y M).map fun b => !b
def cmpop (op : CmpOp) (x y : D) (M : Mem) : Res D := ofOpt ((cmpO op x y M).map .bl) M

/-- where xs[i] is -/
def place (n : Nat) (i : Int) : Option Nat :=
  if 0 ≤ i then (if i < n then some i.toNat else none) else if -(n : Int) ≤ i then some (i + n).toNat else none
def item (xs : List D) (i : Int) : Option D := (place xs.length i).bind fun j => xs[j]?
def idxO (x y : D) (M : Mem) : Option D :=
  match y with
  | .int i => (items x M).bind fun xs => item xs i
  | _ => none
def idxD (x y : D) (M : Mem) : Res D := ofOpt (idxO x y M) M

/-- a bound of a slice -/
def bound (n : Nat) (dflt : Nat) : Option Int → Nat
  | none => dflt
  | some i => if 0 ≤ i then min i.toNat n else (i + n).toNat
def cut (xs : List D) (lo hi : Option Int) : List D :=
  (xs.drop (bound xs.length 0 lo)).take (bound xs.length xs.length hi - bound xs.length 0 lo)
/-- a tuple, a list of these, as x is one -/
def likeD (f : List D → Option (List D)) (x : D) (M : Mem) : Res D :=
  match x with
  | .tup xs => ofOpt ((f xs).map .tup) M
  | .obj a => match M[a]? with
    | some (.lst xs) => match f xs with
      | some ys => alloc (.lst ys) M
      | none => .bad
    | _ => .bad
  | _ => .bad
def slcD (x : D) (lo hi : Option Int) (M : Mem) : Res D := likeD (fun xs => some (cut xs lo hi)) x M
/-- every second: from the first (0), from the second (1); backward (2) -/
def every2 : List D → List D
  | [] => []
  | [x] => [x]
  | x :: _ :: r => x :: every2 r
def cut3 (k : Nat) (xs : List D) : Option (List D) :=
  match k with
  | 0 => some (every2 xs)
  | 1 => some (every2 (xs.drop 1))
  | 2 => some xs.reverse
  | _ => none
def slc3D (k : Nat) (x : D) (M : Mem) : Res D := likeD (cut3 k) x M

/-- all ints -/
def intsD : List D → Option (List Int)
  | [] => some []
  | .int i :: r => (intsD r).map (i :: ·)
  | _ :: _ => none
def boolsD : List D → Option (List Bool)
  | [] => some []
  | .bl b :: r => (boolsD r).map (b :: ·)
  | _ :: _ => none

/-- the text of a tree -/
def reprO (x : D) (M : Mem) : Option D :=
  (py M DEEP x).bind fun p => if p.showable = true ∧ p.shown.length ≤ LIM ∧ p.hasDict = false then some (.str p.shown) else none
/-- which kind of a value x is: 0 None, 1 bool, 2 int, 3 text, 4 tuple, 5 list -/
def kindO (x : D) (M : Mem) : Option Nat :=
  match x with
  | .non => some 0
  | .bl _ => some 1
  | .int _ => some 2
  | .str _ => some 3
  | .tup _ => some 4
  | .obj a => match M[a]? with
    | some (.lst _) => some 5
    | _ => none
  | _ => none
def isaO (f : Nat → Bool) (x : D) (M : Mem) : Option D := (kindO x M).map fun k => .bl (f k)
def lenO (x : D) (M : Mem) : Option D := (items x M).map fun ys => .int ys.length
/-- built-ins that make nothing new -/
def bltO (b : BF) (xs : List D) (M : Mem) : Option D :=
  match b, xs with
  | .len, [x] => lenO x M
  | .abs, [.int i] => some (.int (if i < 0 then -i else i))
  | .int, [.int i] => some (.int i)
  | .int, [.bl b] => some (.int (if b then 1 else 0))
  | .sum, [x] => (items x M).bind fun ys => (intsD ys).map fun is => .int is.sum
  | .max, [.int i, .int j] => some (.int (if j > i then j else i))
  | .min, [.int i, .int j] => some (.int (if j < i then j else i))
  | .all, [.obj a] => (lstO M a).bind fun ys => (boolsD ys).map fun bs => .bl (bs.all id)
  | .any, [.obj a] => (lstO M a).bind fun ys => (boolsD ys).map fun bs => .bl (bs.any id)
  | .repr, [x] => reprO x M
  | .isInt, [x] => isaO (fun k => k == 1 || k == 2) x M
  | .isBool, [x] => isaO (fun k => k == 1) x M
  | .isTuple, [x] => isaO (fun k => k == 4) x M
  | .isStr, [x] => isaO (fun k => k == 3) x M
  | .isList, [x] => isaO (fun k => k == 5) x M
  | .isDict, [x] => isaO (fun _ => false) x M
  | _, _ => none
def seqD (f : List D → Res D) (xs : List D) (M : Mem) : Res D :=
  match xs with
  | [x] => (ofOpt (items x M) M).bind fun ys _ => f ys
  | _ => .bad
def blt (b : BF) (xs : List D) (M : Mem) : Res D :=
  match b with
  | .tuple => seqD (fun ys => .ok (.tup ys) M) xs M
  | .list => seqD (fun ys => alloc (.lst ys) M) xs M
  | b => ofOpt (bltO b xs M) M

def countO (ys : List D) (x : D) (M : Mem) : Option D :=
  (py M DEEP x).bind fun p => (ys.mapM (py M DEEP)).map fun ps => .int (ps.countP fun z => PyData.eqv z p)
def appendD (x : D) (xs : List D) (M : Mem) : Res D :=
  match x, xs with
  | .obj a, [y] => (ofOpt (lstO M a) M).bind fun ys _ => if ys.length < LIM then .ok .non (M.set a (.lst (ys ++ [y]))) else .bad
  | _, _ => .bad
def countD (x : D) (xs : List D) (M : Mem) : Res D :=
  match x, xs with
  | .tup ys, [y] => ofOpt (countO ys y M) M
  | _, _ => .bad
/-- the receiver is of the method's type -/
def mthOk (m : MF) (x : D) (M : Mem) : Bool :=
  match m with
  | .append => match x with
    | .obj a => (lstO M a).isSome
    | _ => false
  | .count => match x with
    | .tup _ => true
    | _ => false
  | _ => false
def mth (m : MF) (x : D) (xs : List D) (M : Mem) : Res D :=
  match m with
  | .append => appendD x xs M
  | .count => countD x xs M
  | _ => .bad

/-- what a loop draws from -/
inductive Sr where
  | lst (a : Nat) | tup (xs : List D) | rng (lo : Int) (n : Nat) | enum (s : Sr) | zip (s t : Sr)
def Sr.at : Sr → Nat → Mem → Option (Option D)
  | .lst a, i, M => match M[a]? with
    | some (.lst xs) => if i ≤ xs.length then some xs[i]? else none
    | _ => none
  | .tup xs, i, _ => if i ≤ xs.length then some xs[i]? else none
  | .rng lo n, i, _ => if i < n then some (some (.int (lo + i))) else some none
  | .enum s, i, M => match s.at i M with
    | some (some d) => some (some (.pr [.int i, d]))
    | some none => some none
    | none => none
  | .zip s t, i, M => match s.at i M, t.at i M with
    | some (some x), some (some y) => some (some (.pr [x, y]))
    | some none, some _ => some none
    | some (some _), some none => some none
    | _, _ => none
def srOf (d : D) (M : Mem) : Option Sr :=
  match d with
  | .tup xs => some (.tup xs)
  | .rol xs => some (.tup xs)
  | .obj a => match M[a]? with
    | some (.lst _) => some (.lst a)
    | _ => none
  | _ => none

def isPr : D → Bool
  | .pr _ => true
  | _ => false
mutual
def bindT : T → D → Env → Option Env
  | .nm i, d, ρ => if i < ρ.length ∧ isPr d = false then some (ρ.set i (some d)) else none
  | .tup ts, d, ρ => match d with
    | .tup xs => bindTs ts xs ρ
    | .pr xs => bindTs ts xs ρ
    | _ => none
def bindTs : List T → List D → Env → Option Env
  | [], [], ρ => some ρ
  | t :: ts, x :: xs, ρ => match bindT t x ρ with
    | some ρ' => bindTs ts xs ρ'
    | none => none
  | _, _, _ => none
end

def wipeE (ρ : Env) : List Nat → Env
  | [] => ρ
  | v :: vs => (wipeE ρ vs).set v none

/-- a list comprehension's loop -/
def lcLoop (t : T) (ρ : Env) (c : Env → Mem → Res Bool) (elt : Env → Mem → Res D) : Nat → Sr → Nat → List D → Mem → Res (List D)
  | 0, _, _, _, _ => .bad
  | n + 1, sr, i, acc, M => match sr.at i M with
    | none => .bad
    | some none => .ok acc M
    | some (some d) => match bindT t d ρ with
      | none => .bad
      | some ρ' => (c ρ' M).bind fun b M => if b = true then (elt ρ' M).bind fun y M => if acc.length < LIM then lcLoop t ρ c elt n sr (i + 1) (acc ++ [y]) M else .bad
          else lcLoop t ρ c elt n sr (i + 1) acc M
def yes : Env → Mem → Res Bool := fun _ M => .ok true M
def test (r : Res D) : Res Bool := r.bind fun d M => match d with
  | .bl b => .ok b M
  | _ => .bad

def whileLoop (c : Env → Mem → Res Bool) (b : Env → Mem → Out) : Nat → Env → Mem → Out
  | 0, _, _ => .bad
  | n + 1, ρ, M => (c ρ M).out ρ fun t M => if t = true then (match b ρ M with
      | .nx ρ M => whileLoop c b n ρ M
      | .cnt ρ M => whileLoop c b n ρ M
      | .brk ρ M => .nx ρ M
      | .ret d M => .ret d M
      | .ex x ρ M => .ex x ρ M
      | .bad => .bad) else .nx ρ M
def forLoop (t : T) (b : Env → Mem → Out) : Nat → Sr → Nat → Env → Mem → Out
  | 0, _, _, _, _ => .bad
  | n + 1, sr, i, ρ, M => match sr.at i M with
    | none => .bad
    | some none => .nx ρ M
    | some (some d) => match bindT t d ρ with
      | none => .bad
      | some ρ => match b ρ M with
        | .nx ρ M => forLoop t b n sr (i + 1) ρ M
        | .cnt ρ M => forLoop t b n sr (i + 1) ρ M
        | .brk ρ M => .nx ρ M
        | .ret d M => .ret d M
        | .ex x ρ M => .ex x ρ M
        | .bad => .bad

abbrev Fns := Nat → List D → Mem → Res D
def rng1O (d : D) : Option Sr :=
  match d with
  | .int j => if j < 4611686018427387904 ∧ -4611686018427387904 ≤ j then some (.rng 0 j.toNat) else none
  | _ => none
def rng2O (d e : D) : Option Sr :=
  match d, e with
  | .int i, .int j => if j < 4611686018427387904 ∧ -4611686018427387904 ≤ j ∧ i < 4611686018427387904 ∧ -4611686018427387904 ≤ i then some (.rng i (j - i).toNat) else none
  | _, _ => none

mutual
def evE (F : Fns) : E → Env → Mem → Res D
  | .var i, ρ, M => match ρ[i]? with
    | some (some d) => .ok d M
    | _ => .bad
  | .con d, _, M => .ok d M
  | .bin op a b, ρ, M => (evE F a ρ M).bind fun x M => (evE F b ρ M).bind fun y M => binop op x y M
  | .neg a, ρ, M => (evE F a ρ M).bind fun x M => intR x fun i => .ok (.int (-i)) M
  | .not a, ρ, M => (test (evE F a ρ M)).bind fun b M => .ok (.bl (!b)) M
  | .tst a, ρ, M => (evE F a ρ M).bind fun x M => ofOpt ((truth x M).map .bl) M
  | .cmp op a b, ρ, M => (evE F a ρ M).bind fun x M => (evE F b ρ M).bind fun y M => cmpop op x y M
  | .chn op op' a b c, ρ, M => (evE F a ρ M).bind fun x M => (evE F b ρ M).bind fun y M => (cmpop op x y M).bind fun z M => match z with
    | .bl true => (evE F c ρ M).bind fun w M => cmpop op' y w M
    | .bl false => .ok (.bl false) M
    | _ => .bad
  | .and a b, ρ, M => (evE F a ρ M).bind fun x M => match x with
    | .bl true => evE F b ρ M
    | .bl false => .ok (.bl false) M
    | _ => .bad
  | .or a b, ρ, M => (evE F a ρ M).bind fun x M => match x with
    | .bl true => .ok (.bl true) M
    | .bl false => evE F b ρ M
    | _ => .bad
  | .ite c a b, ρ, M => (test (evE F c ρ M)).bind fun t M => if t = true then evE F a ρ M else evE F b ρ M
  | .tup es, ρ, M => (evEs F es ρ M).bind fun xs M => if xs.length ≤ LIM then .ok (.tup xs) M else .bad
  | .lst es, ρ, M => (evEs F es ρ M).bind fun xs M => if xs.length ≤ LIM then alloc (.lst xs) M else .bad
  | .idx a b, ρ, M => (evE F a ρ M).bind fun x M => (evE F b ρ M).bind fun y M => idxD x y M
  | .slcA a, ρ, M => (evE F a ρ M).bind fun x M => slcD x none none M
  | .slcF a lo, ρ, M => (evE F a ρ M).bind fun x M => (evE F lo ρ M).bind fun l M => intR l fun l => slcD x (some l) none M
  | .slcT a hi, ρ, M => (evE F a ρ M).bind fun x M => (evE F hi ρ M).bind fun h M => intR h fun h => slcD x none (some h) M
  | .slcB a lo hi, ρ, M => (evE F a ρ M).bind fun x M => (evE F lo ρ M).bind fun l M => intR l fun l => (evE F hi ρ M).bind fun h M => intR h fun h => slcD x (some l) (some h) M
  | .slc3 a k, ρ, M => (evE F a ρ M).bind fun x M => slc3D k x M
  | .call f es, ρ, M => (evEs F es ρ M).bind fun xs M => F f xs M
  | .callv i es, ρ, M => match ρ[i]? with
    | some (some (.fn f)) => (evEs F es ρ M).bind fun xs M => F f xs M
    | _ => .bad
  | .blt b es, ρ, M => (evEs F es ρ M).bind fun xs M => blt b xs M
  | .mth m a es, ρ, M => (evE F a ρ M).bind fun x M => if mthOk m x M = true then (evEs F es ρ M).bind fun xs M => mth m x xs M else .bad
  | .lc elt t it own, ρ, M => ((evI F it ρ M).bind fun sr M => (lcLoop t (wipeE ρ own) yes (evE F elt) WF sr 0 [] M).noex).bind fun acc M => alloc (.lst acc) M
  | .lci elt t it c own, ρ, M => ((evI F it ρ M).bind fun sr M => (lcLoop t (wipeE ρ own) (fun ρ M => test (evE F c ρ M)) (evE F elt) WF sr 0 [] M).noex).bind fun acc M => alloc (.lst acc) M
  | .dnew, _, M => alloc (.dct []) M
def evEs (F : Fns) : Es → Env → Mem → Res (List D)
  | .nil, _, M => .ok [] M
  | .cons e es, ρ, M => (evE F e ρ M).bind fun x M => (evEs F es ρ M).bind fun xs M => .ok (x :: xs) M
def evI (F : Fns) : It → Env → Mem → Res Sr
  | .val e, ρ, M => (evE F e ρ M).bind fun d M => ofOpt (srOf d M) M
  | .rng1 e, ρ, M => (evE F e ρ M).bind fun x M => ofOpt (rng1O x) M
  | .rng2 a b, ρ, M => (evE F a ρ M).bind fun x M => (evE F b ρ M).bind fun y M => ofOpt (rng2O x y) M
  | .enum e, ρ, M => (evE F e ρ M).bind fun d M => ofOpt ((srOf d M).map .enum) M
  | .zip a b, ρ, M => (evE F a ρ M).bind fun x M => (evE F b ρ M).bind fun y M => match srOf x M, srOf y M with
    | some s, some t => .ok (.zip s t) M
    | _, _ => .bad
end

def setD (o i v : D) (M : Mem) : Option Mem :=
  match o, i with
  | .obj a, .int i => match M[a]? with
    | some (.lst xs) => match place xs.length i with
      | some j => some (M.set a (.lst (xs.set j v)))
      | none => none
    | _ => none
  | _, _ => none

mutual
def evS (F : Fns) : S → Env → Mem → Out
  | .asg t e, ρ, M => (evE F e ρ M).out ρ fun d M => match bindT t d ρ with
    | some ρ => .nx ρ M
    | none => .bad
  | .par i j a b, ρ, M => (evE F a ρ M).out ρ fun x M => (evE F b ρ M).out ρ fun y M =>
      if i < ρ.length ∧ j < ρ.length then .nx ((ρ.set i (some x)).set j (some y)) M else .bad
  | .sset o i e, ρ, M => (evE F e ρ M).out ρ fun v M => (evE F o ρ M).out ρ fun x M => (evE F i ρ M).out ρ fun k M => match setD x k v M with
    | some M => .nx ρ M
    | none => .bad
  | .aug i op e, ρ, M => match ρ[i]? with
    | some (some (.int a)) => (evE F e ρ M).out ρ fun y M => match y with
      | .int b => match op with
        | .Add => .nx (ρ.set i (some (.int (a + b)))) M
        | .Sub => .nx (ρ.set i (some (.int (a - b)))) M
        | _ => .bad
      | _ => .bad
    | _ => .bad
  | .augS o i op e, ρ, M => (evE F o ρ M).out ρ fun x M => (evE F i ρ M).out ρ fun k M => match idxO x k M with
    | some (.int a) => (evE F e ρ M).out ρ fun y M => match y with
      | .int b => match (match op with
          | .Add => setD x k (.int (a + b)) M
          | .Sub => setD x k (.int (a - b)) M
          | _ => none) with
        | some M => .nx ρ M
        | none => .bad
      | _ => .bad
    | _ => .bad
  | .ife c a b, ρ, M => (test (evE F c ρ M)).out ρ fun t M => if t = true then evSs F a ρ M else evSs F b ρ M
  | .whl c b, ρ, M => whileLoop (fun ρ M => test (evE F c ρ M)) (evSs F b) WF ρ M
  | .fr t it b, ρ, M => (evI F it ρ M).out ρ fun sr M => forLoop t (evSs F b) WF sr 0 ρ M
  | .ret e, ρ, M => (evE F e ρ M).out ρ fun d M => .ret d M
  | .exp e, ρ, M => (evE F e ρ M).out ρ fun _ M => .nx ρ M
  | .brk, ρ, M => .brk ρ M
  | .cnt, ρ, M => .cnt ρ M
  | .pas, ρ, M => .nx ρ M
  | .rai, _, _ => .bad
def evSs (F : Fns) : Ss → Env → Mem → Out
  | .nil, ρ, M => .nx ρ M
  | .cons s r, ρ, M => (evS F s ρ M).next fun ρ M => evSs F r ρ M
end

/-- a def: how many parameters, how many names in all, its body -/
structure FD where
  np : Nat
  nv : Nat
  body : Ss
def startE (nv : Nat) (ds : List D) : Env := ds.map some ++ List.replicate (nv - ds.length) none
def Out.res : Out → Res D
  | .ret d M => .ok d M
  | .nx _ M => .ok .non M
  | .ex x _ M => .ex x M
  | _ => .bad
/-! ### a call sees nothing but what it is handed -/
mutual
/-- no places in it -/
def pureD : D → Bool
  | .non => true
  | .bl _ => true
  | .int _ => true
  | .str _ => true
  | .tup xs => pureL xs
  | .pr _ => false
  | .rol xs => pureL xs
  | .obj _ => false
  | .fn _ => true
  | .ty _ => true
def pureL : List D → Bool
  | [] => true
  | d :: ds => pureD d && pureL ds
end
/-- the lists that are handed over, their items without places -/
def roots : List D → Mem → Option (List Nat)
  | [], _ => some []
  | d :: ds, M => match d with
    | .obj a => (match M[a]? with
      | some (.lst xs) => if pureL xs = true then (roots ds M).map (a :: ·) else none
      | _ => none)
    | d => if pureD d = true then roots ds M else none
/-- .. numbered anew -/
def renA : Nat → List D → List D
  | _, [] => []
  | n, d :: ds => match d with
    | .obj _ => .obj n :: renA (n + 1) ds
    | d => d :: renA n ds
def subM (as : List Nat) (M : Mem) : Mem := as.map fun a => (M[a]?).getD (.lst [])
/-- written back -/
def putB : List Nat → Nat → Mem → Mem → Option Mem
  | [], _, _, M => some M
  | a :: as, j, M', M => match M'[j]? with
    | some (.lst xs) => if pureL xs = true then putB as (j + 1) M' (M.set a (.lst xs)) else none
    | _ => none
def backR (as : List Nat) (M : Mem) : Res D → Option (Res D)
  | .ok d M' => if pureD d = true then (putB as 0 M' M).map fun M2 => .ok d M2
      else (match d with
        | .obj j => if as.length ≤ j then (match M'[j]? with
          | some (.lst ys) => if pureL ys = true then (putB as 0 M' M).map fun M2 => .ok (.obj M2.length) (M2 ++ [.lst ys]) else none
          | _ => none) else none
        | _ => none)
  | .ex x M' => (match x.val with
    | none => (putB as 0 M' M).map fun M2 => .ex x M2
    | some d => if pureD d = true then (putB as 0 M' M).map fun M2 => .ex x M2 else none)
  | .bad => some .bad
def iso (R : List D → Mem → Res D) (ds : List D) (M : Mem) : Res D :=
  match roots ds M with
  | some as => if as.Nodup then (match backR as M (R (renA 0 ds) (subM as M)) with
    | some r => r
    | none => R ds M) else R ds M
  | none => R ds M
/-- a def's body -/
def bodyR (F : Fns) (fd : FD) (ds : List D) (M : Mem) : Res D := if ds.length = fd.np ∧ fd.np ≤ fd.nv then (evSs F fd.body (startE fd.nv ds) M).res else .bad
/-- a call, so many calls deep at most -/
def run (fs : List FD) : Nat → Fns
  | 0, _, _, _ => .bad
  | k + 1, f, ds, M => match fs[f]? with
    | none => .bad
    | some fd => iso (bodyR (run fs k) fd) ds M
end Mi
end
section
set_option Elab.async false
set_option linter.all false
set_option maxRecDepth 100000
set_option maxHeartbeats 1000000
/-! MiB: what the data stand for in the abstract heap. -/
namespace Mi
open PySem PySem.Spec PyProof.Rows L2

/-- where the module's defs and classes stand; the field that an error keeps -/
structure Place where
  K : PySem.W.Frag
  fn : Nat → Addr
  cl : Nat → Value
  fld : Nat → Option Str

def KL (K : PySem.W.Frag) (a : Addr) (xs : List V) : Prop := ∃ (o : Obj) (its : Array Value) (n : Nat), K.lookup a = some o ∧ o.cls = .type "list" ∧ o.dict = none ∧ o.data = .seq its n ∧ its.size ≤ sizeLine ∧ Vals xs its.toList
/-- a locked list -/
def SqF (K : PySem.W.Frag) (H : Hp) (a : Addr) (xs : List V) : Prop := (∃ o, H a = some (.frz o (.lst xs))) ∨ KL K a xs
theorem SqF.seq {K : PySem.W.Frag} {H : Hp} {a : Addr} {xs : List V} (h : SqF K H a xs) : SqL K H a xs := by
  rcases h with ⟨o, h⟩ | h
  · exact .inl (.inr ⟨o, h⟩)
  · exact .inr h

/-- a tuple, its own object known to bear no dict -/
def TupF (K : PySem.W.Frag) (H : Hp) (a : Addr) (xs : List V) : Prop :=
  (∃ o : Obj, o.dict = none ∧ H a = some (.frz o (.tup xs))) ∨
    ∃ (o : Obj) (its : Array Value) (n : Nat), K.lookup a = some o ∧ o.cls = .type "tuple" ∧ o.dict = none ∧ o.data = .seq its n ∧ its.size ≤ sizeLine ∧ Vals xs its.toList
theorem TupF.seq {K : PySem.W.Frag} {H : Hp} {a : Addr} {xs : List V} (h : TupF K H a xs) : SqT K H a xs := by
  rcases h with ⟨o, _, h⟩ | ⟨o, its, n, h1, h2, _, h3, h4, h5⟩
  · exact .inl (.inr ⟨o, h⟩)
  · exact .inr ⟨o, its, n, h1, h2, h3, h4, h5⟩

variable (L : Place)
mutual
inductive RD (H : Hp) (μ : List Addr) : V → D → Prop
  | non : RD H μ .non .non
  | bl (b : Bool) : RD H μ (.bl b) (.bl b)
  | int (i : Int) : RD H μ (.int i) (.int i)
  | str (s : Str) : RD H μ (.str s) (.str s)
  | tup {a : Addr} {xs : List V} {ds : List D} : TupF L.K H a xs → RDs H μ xs ds → RD H μ (.ref a) (.tup ds)
  | pr {a : Addr} {xs : List V} {ds : List D} : SqT L.K H a xs → RDs H μ xs ds → RD H μ (.ref a) (.pr ds)
  | rol {a : Addr} {xs : List V} {ds : List D} : SqF L.K H a xs → RDs H μ xs ds → RD H μ (.ref a) (.rol ds)
  | obj {n : Nat} {a : Addr} : μ[n]? = some a → RD H μ (.ref a) (.obj n)
  | fn (f : Nat) : RD H μ (.ref (L.fn f)) (.fn f)
  | ty (t : String) : RD H μ (.ty t) (.ty t)
inductive RDs (H : Hp) (μ : List Addr) : List V → List D → Prop
  | nil : RDs H μ [] []
  | cons {v : V} {d : D} {vs : List V} {ds : List D} : RD H μ v d → RDs H μ vs ds → RDs H μ (v :: vs) (d :: ds)
end
variable {L : Place}
def RO (L : Place) (H : Hp) (μ : List Addr) (a : Addr) : MO → Prop
  | .lst ds => ∃ xs, H a = some (.lst xs) ∧ RDs L H μ xs ds
  | .dct _ => False
structure RM (L : Place) (H : Hp) (μ : List Addr) (M : Mem) : Prop where
  len : μ.length = M.length
  nd : μ.Nodup
  at_ : ∀ (n : Nat) (a : Addr) (o : MO), μ[n]? = some a → M[n]? = some o → RO L H μ a o
structure Ext (H : Hp) (μ : List Addr) (H' : Hp) (μ' : List Addr) : Prop where
  pre : ∃ ν, μ' = μ ++ ν
  keep : ∀ a o, H a = some o → a ∉ μ → H' a = some o
  new : ∀ a, a ∈ μ' → a ∉ μ → H a = none

section
variable {H H' H2 : Hp} {μ μ' μ2 : List Addr} {M M' : Mem}
theorem Ext.refl : Ext H μ H μ := ⟨⟨[], by simp⟩, fun _ _ h _ => h, fun _ h n => absurd h n⟩
theorem Ext.sub (x : Ext H μ H' μ') {a : Addr} (h : a ∈ μ) : a ∈ μ' := by
  obtain ⟨ν, e⟩ := x.pre
  rw [e]
  exact List.mem_append_left _ h
theorem Ext.trans (x : Ext H μ H' μ') (y : Ext H' μ' H2 μ2) : Ext H μ H2 μ2 := by
  refine ⟨?_, fun a o h n => ?_, fun a h n => ?_⟩
  · obtain ⟨ν, e⟩ := x.pre
    obtain ⟨ν', e'⟩ := y.pre
    exact ⟨ν ++ ν', by rw [e', e, List.append_assoc]⟩
  · refine y.keep a o (x.keep a o h n) fun z => ?_
    rw [x.new a z n] at h
    cases h
  · by_cases q : a ∈ μ'
    · exact x.new a q n
    · cases e : H a with
      | none => rfl
      | some o =>
        have := y.new a h q
        rw [x.keep a o e n] at this
        cases this
theorem Ext.get (x : Ext H μ H' μ') {n : Nat} {a : Addr} (h : μ[n]? = some a) : μ'[n]? = some a := by
  obtain ⟨ν, e⟩ := x.pre
  rw [e, List.getElem?_append_left (List.getElem?_eq_some_iff.mp h).1]
  exact h
theorem RM.obj (R : RM L H μ M) {a : Addr} (h : a ∈ μ) : ∃ (n : Nat) (o : MO), μ[n]? = some a ∧ M[n]? = some o ∧ RO L H μ a o := by
  obtain ⟨n, hn, e⟩ := List.getElem_of_mem h
  have e1 : μ[n]? = some a := by rw [List.getElem?_eq_getElem hn, e]
  have hn2 : n < M.length := by rw [← R.len]; exact hn
  exact ⟨n, M[n], e1, List.getElem?_eq_getElem hn2, R.at_ n a _ e1 (List.getElem?_eq_getElem hn2)⟩
theorem RM.there (R : RM L H μ M) {a : Addr} (h : a ∈ μ) : ∃ xs, H a = some (.lst xs) := by
  obtain ⟨n, o, _, _, r⟩ := R.obj h
  cases o with
  | lst ds => exact ⟨r.choose, r.choose_spec.1⟩
  | dct => exact r.elim
theorem RM.off (R : RM L H μ M) {a : Addr} {o : HO} (h : H a = some o) (n : ∀ xs, o ≠ .lst xs) : a ∉ μ := fun z => by
  obtain ⟨xs, e⟩ := R.there z
  rw [h] at e
  exact n xs (Option.some.inj e)
theorem RM.free (R : RM L H μ M) {p : Addr} (h : H p = none) : p ∉ μ := fun z => by
  obtain ⟨xs, e⟩ := R.there z
  rw [h] at e
  cases e
theorem SqT.ext {a : Addr} {xs : List V} (R : RM L H μ M) (x : Ext H μ H' μ') (h : SqT L.K H a xs) : SqT L.K H' a xs := by
  rcases h with h | h
  · rcases h with h | ⟨o, h⟩
    · exact .inl (.inl (x.keep _ _ h (R.off h nofun)))
    · exact .inl (.inr ⟨o, x.keep _ _ h (R.off h nofun)⟩)
  · exact .inr h
theorem TupF.ext {a : Addr} {xs : List V} (R : RM L H μ M) (x : Ext H μ H' μ') (h : TupF L.K H a xs) : TupF L.K H' a xs := by
  rcases h with ⟨o, d, h⟩ | h
  · exact .inl ⟨o, d, x.keep _ _ h (R.off h nofun)⟩
  · exact .inr h
theorem SqF.ext {a : Addr} {xs : List V} (R : RM L H μ M) (x : Ext H μ H' μ') (h : SqF L.K H a xs) : SqF L.K H' a xs := by
  rcases h with ⟨o, h⟩ | h
  · exact .inl ⟨o, x.keep _ _ h (R.off h nofun)⟩
  · exact .inr h
mutual
theorem RD.ext (R : RM L H μ M) (x : Ext H μ H' μ') : ∀ {d : D} {v : V}, RD L H μ v d → RD L H' μ' v d
  | .non, _, h => by cases h; exact .non
  | .bl _, _, h => by cases h; exact .bl _
  | .int _, _, h => by cases h; exact .int _
  | .str _, _, h => by cases h; exact .str _
  | .tup ds, _, h => by
    cases h with
    | tup s r => exact .tup (s.ext R x) (RDs.ext R x r)
  | .pr ds, _, h => by
    cases h with
    | pr s r => exact .pr (Mi.SqT.ext R x s) (RDs.ext R x r)
  | .rol ds, _, h => by
    cases h with
    | rol s r => exact .rol (s.ext R x) (RDs.ext R x r)
  | .obj _, _, h => by
    cases h with
    | obj s => exact .obj (x.get s)
  | .fn _, _, h => by cases h; exact .fn _
  | .ty _, _, h => by cases h; exact .ty _
theorem RDs.ext (R : RM L H μ M) (x : Ext H μ H' μ') : ∀ {ds : List D} {vs : List V}, RDs L H μ vs ds → RDs L H' μ' vs ds
  | [], _, h => by cases h; exact .nil
  | d :: ds, _, h => by
    cases h with
    | cons a b => exact .cons (RD.ext R x a) (RDs.ext R x b)
end
theorem RDs.length : ∀ {ds : List D} {vs : List V}, RDs L H μ vs ds → vs.length = ds.length
  | [], _, h => by cases h; rfl
  | d :: ds, _, h => by
    cases h with
    | cons a b =>
      rw [List.length_cons, List.length_cons, RDs.length b]
theorem RDs.get : ∀ {ds : List D} {vs : List V} {i : Nat} {d : D}, RDs L H μ vs ds → ds[i]? = some d → ∃ v, vs[i]? = some v ∧ RD L H μ v d
  | [], _, _, _, _, e => by simp at e
  | x :: ds, _, 0, d, h, e => by
    cases h with
    | cons a b =>
      simp at e
      subst e
      exact ⟨_, rfl, a⟩
  | x :: ds, _, i + 1, d, h, e => by
    cases h with
    | cons a b =>
      obtain ⟨v, h1, h2⟩ := RDs.get (i := i) b (by simpa using e)
      exact ⟨v, by simpa using h1, h2⟩
theorem RDs.get' {ds : List D} {vs : List V} {i : Nat} {v : V} (h : RDs L H μ vs ds) (e : vs[i]? = some v) : ∃ d, ds[i]? = some d ∧ RD L H μ v d := by
  have hl := h.length
  have hi : i < ds.length := by rw [← hl]; exact (List.getElem?_eq_some_iff.mp e).1
  obtain ⟨v', h1, h2⟩ := h.get (List.getElem?_eq_getElem hi)
  rw [e] at h1
  cases h1
  exact ⟨_, List.getElem?_eq_getElem hi, h2⟩
theorem RDs.append : ∀ {ds es : List D} {vs us : List V}, RDs L H μ vs ds → RDs L H μ us es → RDs L H μ (vs ++ us) (ds ++ es)
  | [], _, _, _, h, k => by cases h; exact k
  | d :: ds, _, _, _, h, k => by
    cases h with
    | cons a b => exact .cons a (RDs.append b k)
theorem RDs.take : ∀ {ds : List D} {vs : List V} (n : Nat), RDs L H μ vs ds → RDs L H μ (vs.take n) (ds.take n)
  | _, _, 0, _ => .nil
  | [], _, _ + 1, h => by cases h; exact .nil
  | d :: ds, _, n + 1, h => by
    cases h with
    | cons a b => exact .cons a (RDs.take n b)
theorem RDs.drop : ∀ {ds : List D} {vs : List V} (n : Nat), RDs L H μ vs ds → RDs L H μ (vs.drop n) (ds.drop n)
  | _, _, 0, h => h
  | [], _, _ + 1, h => by cases h; exact .nil
  | d :: ds, _, n + 1, h => by
    cases h with
    | cons a b => exact RDs.drop n b
theorem RDs.set : ∀ {ds : List D} {vs : List V} {v : V} {d : D} (n : Nat), RD L H μ v d → RDs L H μ vs ds → RDs L H μ (vs.set n v) (ds.set n d)
  | [], _, _, _, _, _, h => by cases h; exact .nil
  | d :: ds, _, _, _, 0, r, h => by
    cases h with
    | cons a b => exact .cons r b
  | d :: ds, _, _, _, n + 1, r, h => by
    cases h with
    | cons a b => exact .cons a (RDs.set n r b)
theorem RDs.reverse : ∀ {ds : List D} {vs : List V}, RDs L H μ vs ds → RDs L H μ vs.reverse ds.reverse
  | [], _, h => by cases h; exact .nil
  | d :: ds, _, h => by
    cases h with
    | cons a b =>
      rw [List.reverse_cons, List.reverse_cons]
      exact RDs.append (RDs.reverse b) (.cons a .nil)
theorem RDs.flat {ds : List D} {vs : List V} (h : RDs L H μ vs ds) : ∀ n : Nat, RDs L H μ (List.replicate n vs).flatten (List.replicate n ds).flatten
  | 0 => .nil
  | n + 1 => by
    rw [List.replicate_succ, List.replicate_succ, List.flatten_cons, List.flatten_cons]
    exact RDs.append h (RDs.flat h n)

/-- a new object that no place tells of -/
theorem new_off {p : Addr} {u : HO} (R : RM L H μ M) (hp : H p = none) : Ext H μ (upd H p u) μ ∧ RM L (upd H p u) μ M := by
  have x : Ext H μ (upd H p u) μ := ⟨⟨[], by simp⟩, fun a o h _ => by rw [upd_ne (ne_of_none h hp)]; exact h, fun _ h n => absurd h n⟩
  refine ⟨x, ⟨R.len, R.nd, fun n a o h1 h2 => ?_⟩⟩
  have q := R.at_ n a o h1 h2
  cases o with
  | lst ds =>
    obtain ⟨ys, e, r'⟩ := q
    exact ⟨ys, by rw [upd_ne (ne_of_none e hp)]; exact e, RDs.ext R x r'⟩
  | dct => exact q.elim
/-- a new tuple -/
theorem new_tup {p : Addr} {o : Obj} {xs : List V} {ds : List D} (R : RM L H μ M) (hp : H p = none) (ho : o.dict = none) (r : RDs L H μ xs ds) :
    Ext H μ (upd H p (.frz o (.tup xs))) μ ∧ RM L (upd H p (.frz o (.tup xs))) μ M ∧ RD L (upd H p (.frz o (.tup xs))) μ (.ref p) (.tup ds) := by
  obtain ⟨x, R'⟩ := new_off (u := .frz o (.tup xs)) R hp
  exact ⟨x, R', .tup (.inl ⟨o, ho, upd_same⟩) (RDs.ext R x r)⟩
/-- a new pair that a loop draws -/
theorem new_pr {p : Addr} {xs : List V} {ds : List D} (R : RM L H μ M) (hp : H p = none) (r : RDs L H μ xs ds) :
    Ext H μ (upd H p (.tup xs)) μ ∧ RM L (upd H p (.tup xs)) μ M ∧ RD L (upd H p (.tup xs)) μ (.ref p) (.pr ds) := by
  obtain ⟨x, R'⟩ := new_off (u := .tup xs) R hp
  exact ⟨x, R', .pr (SqT.of upd_same) (RDs.ext R x r)⟩
/-- a new list -/
theorem new_lst {p : Addr} {xs : List V} {ds : List D} (R : RM L H μ M) (hp : H p = none) (r : RDs L H μ xs ds) :
    Ext H μ (upd H p (.lst xs)) (μ ++ [p]) ∧ RM L (upd H p (.lst xs)) (μ ++ [p]) (M ++ [.lst ds]) ∧ RD L (upd H p (.lst xs)) (μ ++ [p]) (.ref p) (.obj M.length) := by
  have x : Ext H μ (upd H p (.lst xs)) (μ ++ [p]) := ⟨⟨[p], rfl⟩, fun a o h _ => by rw [upd_ne (ne_of_none h hp)]; exact h, fun a h n => by
    rcases List.mem_append.mp h with h | h
    · exact absurd h n
    · have e : a = p := by simpa using h
      rw [e]
      exact hp⟩
  have hz : (μ ++ [p])[M.length]? = some p := by rw [← R.len, List.getElem?_append_right (Nat.le_refl _), Nat.sub_self]; rfl
  refine ⟨x, ⟨by simp [R.len], ?_, fun n a o h1 h2 => ?_⟩, .obj hz⟩
  · exact List.nodup_append.mpr ⟨R.nd, by simp, fun a ha b hb => by
      have e : b = p := by simpa using hb
      rw [e]
      intro z
      rw [z] at ha
      exact R.free hp ha⟩
  · by_cases hn : n < M.length
    · rw [List.getElem?_append_left hn] at h2
      rw [List.getElem?_append_left (by rw [R.len]; exact hn)] at h1
      have q := R.at_ n a o h1 h2
      cases o with
      | lst ds =>
        obtain ⟨ys, e, r'⟩ := q
        exact ⟨ys, by rw [upd_ne (ne_of_none e hp)]; exact e, RDs.ext R x r'⟩
      | dct => exact q.elim
    · have hn2 : n = M.length := by
        have := (List.getElem?_eq_some_iff.mp h2).1
        rw [List.length_append] at this
        simp at this
        omega
      subst hn2
      rw [hz] at h1
      cases h1
      rw [List.getElem?_append_right (Nat.le_refl _), Nat.sub_self] at h2
      cases h2
      exact ⟨xs, upd_same, RDs.ext R x r⟩
/-- a list changed -/
theorem set_lst {a : Addr} {n : Nat} {xs : List V} {ds es : List D} (R : RM L H μ M) (hn : μ[n]? = some a) (hM : M[n]? = some (.lst es)) (r : RDs L H μ xs ds) :
    Ext H μ (upd H a (.lst xs)) μ ∧ RM L (upd H a (.lst xs)) μ (M.set n (.lst ds)) := by
  have ha : a ∈ μ := List.mem_of_getElem? hn
  have x : Ext H μ (upd H a (.lst xs)) μ := ⟨⟨[], by simp⟩, fun b o h k => by
    have hb : b ≠ a := fun z => k (z ▸ ha)
    rw [upd_ne hb]
    exact h, fun _ h k => absurd h k⟩
  refine ⟨x, ⟨by rw [List.length_set]; exact R.len, R.nd, fun m b o h1 h2 => ?_⟩⟩
  by_cases e : m = n
  · subst e
    rw [hn] at h1
    cases h1
    rw [List.getElem?_set_self (List.getElem?_eq_some_iff.mp hM).1] at h2
    cases h2
    exact ⟨xs, upd_same, RDs.ext R x r⟩
  · rw [List.getElem?_set_ne (Ne.symm e)] at h2
    have q := R.at_ m b o h1 h2
    have hb : b ≠ a := fun z => by
      subst z
      have l1 := (List.getElem?_eq_some_iff.mp h1)
      have l2 := (List.getElem?_eq_some_iff.mp hn)
      exact e ((List.getElem_inj R.nd).mp (l1.2.trans l2.2.symm))
    cases o with
    | lst ds =>
      obtain ⟨zs, e', r'⟩ := q
      exact ⟨zs, by rw [upd_ne hb]; exact e', RDs.ext R x r'⟩
    | dct => exact q.elim

/-- the names' values -/
structure RE (L : Place) (H : Hp) (μ : List Addr) (σ : L2.St) (ρ : Env) : Prop where
  len : σ.length = ρ.length
  at_ : ∀ (i : Nat) (d : D), ρ[i]? = some (some d) → ∃ v, σ[i]? = some (some v) ∧ RD L H μ v d
structure RS (L : Place) (ρ : Env) (σ : L2.St) (H : Hp) (μ : List Addr) (M : Mem) : Prop where
  m : RM L H μ M
  e : RE L H μ σ ρ
theorem RE.ext {σ : L2.St} {ρ : Env} (R : RM L H μ M) (x : Ext H μ H' μ') (r : RE L H μ σ ρ) : RE L H' μ' σ ρ :=
  ⟨r.len, fun i d h => let ⟨v, h1, h2⟩ := r.at_ i d h; ⟨v, h1, RD.ext R x h2⟩⟩
theorem RE.set {σ : L2.St} {ρ : Env} {v : V} {d : D} {i : Nat} (r : RE L H μ σ ρ) (h : RD L H μ v d) : RE L H μ (σ.set i (some v)) (ρ.set i (some d)) := by
  refine ⟨by rw [List.length_set, List.length_set]; exact r.len, fun j e h1 => ?_⟩
  by_cases hj : i = j
  · subst hj
    by_cases hi : i < ρ.length
    · rw [List.getElem?_set_self hi] at h1
      cases h1
      exact ⟨v, by rw [List.getElem?_set_self (by rw [r.len]; exact hi)], h⟩
    · rw [List.getElem?_eq_none (by simpa using hi)] at h1
      cases h1
  · rw [List.getElem?_set_ne hj] at h1 ⊢
    exact r.at_ j e h1
theorem RE.clear {σ : L2.St} {ρ : Env} {i : Nat} (r : RE L H μ σ ρ) : RE L H μ (σ.set i none) (ρ.set i none) := by
  refine ⟨by rw [List.length_set, List.length_set]; exact r.len, fun j e h1 => ?_⟩
  by_cases hj : i = j
  · subst hj
    by_cases hi : i < ρ.length
    · rw [List.getElem?_set_self hi] at h1
      cases h1
    · rw [List.getElem?_eq_none (by simpa using hi)] at h1
      cases h1
  · rw [List.getElem?_set_ne hj] at h1 ⊢
    exact r.at_ j e h1
theorem RE.wipe {σ : L2.St} {ρ : Env} (r : RE L H μ σ ρ) : ∀ vs : List Nat, RE L H μ (L2.wipe σ vs) (wipeE ρ vs)
  | [] => r
  | v :: vs => (RE.wipe r vs).clear
end
end Mi
end
section
set_option Elab.async false
set_option linter.all false
set_option maxRecDepth 100000
set_option maxHeartbeats 1000000
set_option exponentiation.threshold 20000
/-! MiC: operators, built-ins and methods by data. -/
namespace Mi
open PySem PySem.Spec PyProof.Rows L2

def Tq {α β : Type} (rel : Hp → List Addr → β → α → Prop) (L : Place) (H : Hp) (μ : List Addr) (r : Res α) (Xs : Exn → Mem → Prop) (Q : β → Hp → Prop) : Prop :=
  match r with
  | .ok d M' => ∀ v H' μ', Ext H μ H' μ' → RM L H' μ' M' → rel H' μ' v d → Q v H'
  | .ex x M' => Xs x M'
  | .bad => False
abbrev NoX : Exn → Mem → Prop := fun _ _ => False
theorem ite_ok {α : Type} {c : Prop} [Decidable c] {r : Res α} {β : Type} {rel : Hp → List Addr → β → α → Prop} {L : Place} {H : Hp} {μ : List Addr} {Xs : Exn → Mem → Prop} {Q : β → Hp → Prop}
    (h : Tq rel L H μ (if c then r else .bad) Xs Q) : c ∧ Tq rel L H μ r Xs Q := by
  by_cases hc : c
  · rw [if_pos hc] at h
    exact ⟨hc, h⟩
  · rw [if_neg hc] at h
    exact h.elim
theorem LIM_eq : LIM = sizeLine := sizeLine_eq.symm
section
variable {L : Place} {X : Cx} {H : Hp} {μ : List Addr} {M : Mem} {Q : VK}
theorem Tq.now {d : D} {v : V} {Xs : Exn → Mem → Prop} (h : Tq (RD L) L H μ (.ok d M) Xs Q) (R : RM L H μ M) (r : RD L H μ v d) : Q v H := h v H μ Ext.refl R r
theorem Tq.tup {ds : List D} {xs : List V} {Xs : Exn → Mem → Prop} (h : Tq (RD L) L H μ (.ok (.tup ds) M) Xs Q) (R : RM L H μ M) (r : RDs L H μ xs ds) : ∀ (p : Addr) (o : Obj), H p = none → o.dict = none → Q (.ref p) (upd H p (.frz o (.tup xs))) := fun p o hp ho =>
  let ⟨a, b, c⟩ := new_tup R hp ho r
  h _ _ _ a b c
theorem Tq.lst {ds : List D} {xs : List V} {Xs : Exn → Mem → Prop} (h : Tq (RD L) L H μ (alloc (.lst ds) M) Xs Q) (R : RM L H μ M) (r : RDs L H μ xs ds) : ∀ p, H p = none → Q (.ref p) (upd H p (.lst xs)) := fun p hp =>
  let ⟨a, b, c⟩ := new_lst R hp r
  h _ _ _ a b c

/-- what a rule asks of a new tuple -/
def NewT (xs : List V) (H : Hp) (Q : VK) : Prop := ∀ (p : Addr) (o : Obj), H p = none → o.dict = none → Q (.ref p) (upd H p (.frz o (.tup xs)))
theorem tup_ep {pins : List (Addr × Obj)} {σ : L2.St} {s : Shared} {xs : List V} {its : List Value} (I : Inv X pins σ H s) (r : Vals xs its) (hz : xs.length ≤ sizeLine) (q : NewT xs H Q) :
    EP X pins σ Q (.ref s.heap.objs.size) { s with heap := s.heap.push { cls := .type "tuple", data := .seq its.toArray } } := by
  refine ⟨.ref s.heap.objs.size, _, I.laid (t' := s.toks) (o := .frz { cls := .type "tuple", data := .seq its.toArray } (.tup xs)) (fun b u e => Heap.get?_push_of_some _ e) (Nat.le_refl _) ?_, rfl, q _ _ (I.hok.fresh (Nat.le_refl _)) rfl⟩
  exact ⟨Heap.get?_push_size _ rfl, hz, its, r, IsTup.new _ _⟩
/-- (a, b, ..) -/
def tTupF (t : TA) : TE := fun σ H Q => t σ H fun xs H1 => xs.length ≤ sizeLine ∧ NewT xs H1 Q
theorem pe_tupF {es : List Expr} {t : TA} {n : Nat} {pos : Pos} (h : PA X es t) : PE X (.Tuple es n pos) (tTupF t) := by
  refine ⟨fun pins s σ H Q I hq => ?_⟩
  exact wpAny_Tuple_spliced (thn (h.run pos pins s σ H _ I hq) fun us s1 ⟨xs, H1, I1, r, z, q⟩ => ⟨by rw [← r.length]; exact z, tup_ep I1 r z q⟩)
/-- t + u -/
def rCatF (K : PySem.W.Frag) : R2 := fun x y H Q => ∃ a b xs ys, x = .ref a ∧ y = .ref b ∧ SqT K H a xs ∧ SqT K H b ys ∧ xs.length + ys.length ≤ sizeLine ∧
  (xs = [] → Q y H) ∧ (ys = [] → Q x H) ∧ NewT (xs ++ ys) H Q
theorem op_catF : OpR X (binaryOp .Add) (rCatF X.K) := by
  intro pins s σ H x y v u Q I rx ry h
  obtain ⟨a, b, xs, ys, rfl, rfl, ha, hb, hz, q0, q1, q2⟩ := h
  cases rx
  cases ry
  obtain ⟨its, r1, p1, _⟩ := I.tuple ha
  obtain ⟨jts, r2, p2, _⟩ := I.tuple hb
  by_cases hx : xs = []
  · subst hx
    cases r1
    exact L2.cat_tup0 p1 p2 ⟨.ref b, H, I, rfl, q0 rfl⟩
  · have hn : its ≠ [] := fun z => hx (r1.nil_iff.mp z)
    refine HT.cat_tup p1 p2 hn (fun z => ⟨.ref a, H, I, rfl, q1 (r2.nil_iff.mp z)⟩) (fun _ => ?_) (by rw [← r1.length, ← r2.length]; exact hz)
    exact tup_ep I (r1.append r2) (by rw [List.length_append]; exact hz) q2
/-- t * k -/
def rRepF (K : PySem.W.Frag) : R2 := fun x y H Q => ∃ l k xs, x = .ref l ∧ y = .int k ∧ SqT K H l xs ∧ xs ≠ [] ∧ 2 ≤ k ∧ k ≤ 1000 ∧ xs.length ≤ 1000 ∧ NewT (List.replicate k.toNat xs).flatten H Q
theorem op_repF : OpR X (binaryOp .Mult) (rRepF X.K) := by
  intro pins s σ H x y v u Q I rx ry h
  obtain ⟨l, k, xs, rfl, rfl, hT, hne, h1, h2, hz, q⟩ := h
  cases rx
  obtain ⟨t, rfl⟩ := ry
  obtain ⟨its, r, ⟨ob, ho, hc, n, hd⟩, hs⟩ := I.tuple hT
  obtain ⟨cls, dd, data, sl⟩ := ob
  obtain rfl : cls = .type "tuple" := hc
  obtain rfl : data = .seq its.toArray n := hd
  have hl : its.length = xs.length := r.length.symm
  have hn : its ≠ [] := fun e => hne (r.nil_iff.mp e)
  have hi : its.toArray.isEmpty = false := by cases its <;> first | exact absurd rfl hn | rfl
  have hm : ((its.toArray.size : Nat) : Int) * k ≤ 1000000 := by
    rw [List.size_toArray, hl]
    have z : ((xs.length : Nat) : Int) * k ≤ 1000 * k := Int.mul_le_mul_of_nonneg_right (by omega) (by omega)
    omega
  have fl : (List.replicate k.toNat xs).flatten.length ≤ sizeLine := by
    rw [PyProof.Rows.lm_len_rep_flat, sizeLine_eq]
    have z : k.toNat * xs.length ≤ 1000 * 1000 := Nat.mul_le_mul (by omega) hz
    omega
  have rr : ∀ m : Nat, Vals (List.replicate m xs).flatten (List.replicate m its).flatten := fun m => by
    induction m with
    | zero => exact .nil
    | succ m ih =>
      rw [List.replicate_succ, List.replicate_succ, List.flatten_cons, List.flatten_cons]
      exact r.append ih
  have c0 : (decide (k < -(2 ^ 63)) || decide (k ≥ 2 ^ 63)) = false := by rw [decide_eq_false (by omega), decide_eq_false (by omega)]; rfl
  have c1 : (its.toArray.isEmpty || k == 1) = false := by
    rw [hi, Bool.false_or, beq_eq_false_iff_ne]
    omega
  have c2 : (decide (k ≤ 0) || its.toArray.isEmpty) = false := by rw [hi, Bool.or_false, decide_eq_false (by omega)]
  have c4 : Builtin.Tuple.tupleTooMany (((its.toArray.size : Nat) : Int) * k) = false := by
    unfold Builtin.Tuple.tupleTooMany
    rw [sizeLine_eq, decide_eq_false (by omega)]
  refine wpAny_binaryOp_repeat_ref (T := "tuple") (U := "int") (by decide) ⟨_, ho, rfl⟩ (fun s' => typeIs_int s' k t) L2.noFill_tuple_mul F.fills_int_mul F.slot_int_rmul L2.repeat_tuple F.slot_int_index.lookup ?_
  refine call_meets F.slot_int_rmul (typeIs_int s k t) F.entry_int_rmul (F.args_int_rmul_2 _ _) (L2.int_rmul_tuple k t l its.toArray n dd sl) ⟨ho, rfl, ⟨_, ho, rfl⟩, ?_⟩
  refine call_meets F.slot_tuple_mul ⟨_, ho, rfl⟩ F.entry_tuple_mul (F.args_tuple_mul_2 _ _) (L2.tuple_mulW l its.toArray n dd sl k t c0 c1 c2 (by omega) c4 (by rw [L2.size_rep, List.size_toArray, ← (rr _).length]; exact fl)) ⟨ho, ?_⟩
  rw [L2.size_rep]
  exact tup_ep I (rr _) fl q
/-- tuple(x) -/
def rTupOf (K : PySem.W.Frag) : List V → Hp → VK → Prop := fun xs H Q => ∃ p ys, xs = [.ref p] ∧ ((SqL K H p ys ∧ NewT ys H Q) ∨ (SqT K H p ys ∧ Q (.ref p) H))
theorem call_tupOf : CallR X (.type "tuple") (rTupOf X.K) := by
  intro pins s σ H xs us Q I r h
  obtain ⟨p, ys, rfl, h⟩ := h
  obtain ⟨u, rfl, rx⟩ := vals1 r
  cases rx
  rcases h with ⟨hq, q⟩ | ⟨hq, q⟩
  · obtain ⟨its, r', pl, hz⟩ := I.list hq
    have hl := r'.length
    refine call_tuple_list pl.isList (fun h' kp => ?_) (by simp only [List.size_toArray] <;> omega)
    exact tup_ep (s := { s with heap := h' }) (I.kept (t' := s.toks) kp) r' hz q
  · obtain ⟨its, _, pl, _⟩ := I.tuple hq
    exact call_tuple_same pl ⟨.ref p, H, I, rfl, q⟩

def rBin (L : Place) (op : Operator) : R2 := fun x y H Q => ∃ M μ dx dy, RM L H μ M ∧ RD L H μ x dx ∧ RD L H μ y dy ∧ Tq (RD L) L H μ (binop op dx dy M) NoX Q
theorem wmul {i j : Int} (a : i.natAbs < NUM) (b : j.natAbs < NUM) : CMulW i j := wide_mul (a := 8000) (b := 8000) a b (by decide) (by decide) (by decide)
theorem wdiv {i j : Int} (h : 0 < j) (b : j.natAbs < NUM) : CDivW i j := wide_div (b := 8000) h b (by decide) (by decide)
theorem bin_int {op : Operator} {pins : List (Addr × Obj)} {s : Shared} {σ : L2.St} {i j : Int} {v u : Value} (I : Inv X pins σ H s) (rx : RelV (.int i) v) (ry : RelV (.int j) u) (R : RM L H μ M)
    (h : Tq (RD L) L H μ (binI op i j M) NoX Q) : wpAny (model X.prog X.w) X.A (binaryOp op v u) (EP X pins σ Q) X.xe s := by
  unfold binI at h
  cases op with
  | Add => exact op_add pins s σ H _ _ v u Q I rx ry ⟨i, j, rfl, rfl, h.now R (.int _)⟩
  | Sub => exact op_sub pins s σ H _ _ v u Q I rx ry ⟨i, j, rfl, rfl, h.now R (.int _)⟩
  | Mult =>
    obtain ⟨c, h⟩ := ite_ok h
    exact op_mulW pins s σ H _ _ v u Q I rx ry ⟨i, j, rfl, rfl, wmul c.1 c.2, h.now R (.int _)⟩
  | FloorDiv =>
    obtain ⟨c, h⟩ := ite_ok h
    exact op_fdivW pins s σ H _ _ v u Q I rx ry ⟨i, j, rfl, rfl, wdiv c.1 c.2.2, h.now R (.int _)⟩
  | Mod =>
    obtain ⟨c, h⟩ := ite_ok h
    exact op_mod pins s σ H _ _ v u Q I rx ry ⟨i, j, rfl, rfl, c, h.now R (.int _)⟩
  | Pow =>
    obtain ⟨c, h⟩ := ite_ok h
    exact op_pow pins s σ H _ _ v u Q I rx ry ⟨i, j, rfl, rfl, c, h.now R (.int _)⟩
  | _ => exact h.elim
theorem RO.lst_of (R : RM L H μ M) {n : Nat} {a : Addr} {ds : List D} (h1 : μ[n]? = some a) (h2 : M[n]? = some (.lst ds)) : ∃ xs, H a = some (.lst xs) ∧ RDs L H μ xs ds := R.at_ n a _ h1 h2
theorem op_bin (hK : X.K = L.K) (op : Operator) : OpR X (binaryOp op) (rBin L op) := by
  intro pins s σ H x y v u Q I rx ry h
  obtain ⟨M, μ, dx, dy, R, hx, hy, h⟩ := h
  cases dx with
  | int i =>
    cases hx
    cases dy with
    | int j => cases hy; exact bin_int I rx ry R h
    | _ => exact h.elim
  | str a =>
    cases hx
    cases dy with
    | str b =>
      cases hy
      obtain ⟨c, hh⟩ := ite_ok h
      obtain ⟨rfl, c⟩ := c
      exact op_add_str pins s σ H _ _ v u Q I rx ry ⟨a, b, rfl, rfl, by rw [← LIM_eq]; exact c, hh.now R (.str _)⟩
    | _ => exact h.elim
  | tup ds =>
    cases dy with
    | tup es =>
      obtain ⟨c, hh⟩ := ite_ok h
      obtain ⟨rfl, c⟩ := c
      cases hx with
      | @tup a xs _ sx qx =>
        cases hy with
        | @tup b ys _ sy qy =>
          refine op_catF pins s σ H _ _ v u Q I rx ry ⟨a, b, xs, ys, rfl, rfl, hK ▸ sx.seq, hK ▸ sy.seq, by rw [qx.length, qy.length, ← LIM_eq]; exact c, fun e => ?_, fun e => ?_, hh.tup R (qx.append qy)⟩
          · subst e
            cases qx
            exact hh.now R (.tup sy qy)
          · subst e
            cases qy
            rw [List.append_nil] at hh
            exact hh.now R (.tup sx qx)
    | int k =>
      obtain ⟨c, hh⟩ := ite_ok h
      obtain ⟨rfl, c1, c2, c3, c4⟩ := c
      cases hx with
      | @tup a xs _ sx qx =>
        cases hy
        refine op_repF pins s σ H _ _ v u Q I rx ry ⟨a, k, xs, rfl, rfl, hK ▸ sx.seq, fun e => ?_, c1, c2, by rw [qx.length]; exact c3, hh.tup R (qx.flat _)⟩
        subst e
        cases qx
        exact c4 rfl
    | _ => exact h.elim
  | obj n =>
    cases dy with
    | obj m =>
      have h : Tq (RD L) L H μ (match M[n]?, M[m]? with
        | some (.lst xs), some (.lst ys) => if op = .Add ∧ xs.length + ys.length ≤ LIM then alloc (.lst (xs ++ ys)) M else .bad
        | _, _ => .bad) NoX Q := h
      cases hx with
      | @obj _ a ha =>
        cases hy with
        | @obj _ b hb =>
          cases e1 : M[n]? with
          | none => rw [e1] at h; exact h.elim
          | some o1 =>
            cases e2 : M[m]? with
            | none => rw [e1, e2] at h; cases o1 <;> exact h.elim
            | some o2 =>
              rw [e1, e2] at h
              cases o1 with
              | dct => exact h.elim
              | lst xs =>
                cases o2 with
                | dct => exact h.elim
                | lst ys =>
                  obtain ⟨c, hh⟩ := ite_ok h
                  obtain ⟨rfl, c⟩ := c
                  obtain ⟨vs, hv, qv⟩ := RO.lst_of R ha e1
                  obtain ⟨us, hu, qu⟩ := RO.lst_of R hb e2
                  exact op_cat pins s σ H _ _ v u Q I rx ry ⟨a, b, vs, us, rfl, rfl, hv, hu, by rw [qv.length, qu.length, ← LIM_eq]; exact c, hh.lst R (qv.append qu)⟩
    | int k =>
      have h : Tq (RD L) L H μ (match M[n]? with
        | some (.lst xs) => if op = .Mult ∧ k < 1000000 ∧ -1000000 < k ∧ xs.length * k.toNat ≤ LIM then alloc (.lst (List.replicate k.toNat xs).flatten) M else .bad
        | _ => .bad) NoX Q := h
      cases hx with
      | @obj _ a ha =>
        cases hy
        cases e1 : M[n]? with
        | none => rw [e1] at h; exact h.elim
        | some o1 =>
          rw [e1] at h
          cases o1 with
          | dct => exact h.elim
          | lst xs =>
            obtain ⟨c, hh⟩ := ite_ok h
            obtain ⟨rfl, c1, c2, c3⟩ := c
            obtain ⟨vs, hv, qv⟩ := RO.lst_of R ha e1
            exact op_rep pins s σ H _ _ v u Q I rx ry ⟨a, k, vs, rfl, rfl, hv, by omega, by omega, by rw [qv.length, ← LIM_eq]; exact c3, hh.lst R (qv.flat _)⟩
    | _ => exact h.elim
  | _ => cases dy <;> exact h.elim

/-! ### comparisons -/
mutual
theorem py_dp (hK : X.K = L.K) (R : RM L H μ M) : ∀ (n : Nat) {d : D} {v : V} {p : PyData}, RD L H μ v d → py M n d = some p → Dp X.K H v p
  | 0, _, _, _, _, e => by cases e
  | n + 1, d, v, p, h, e => by
    cases h with
    | non => cases e; exact .non
    | bl b => cases e; exact .bl b
    | int i => cases e; exact .int i
    | str s =>
      have e : (if PyData.canLay0 (.str s) = true then some (PyData.str s) else none) = some p := e
      split at e
      · cases e; exact .str s
      · cases e
    | @tup a xs ds sx qx =>
      have e : (ds.mapM (py M n)).map PyData.tuple = some p := e
      obtain ⟨ps, e1, rfl⟩ := Option.map_eq_some_iff.mp e
      exact .tup (hK ▸ sx.seq) (py_dps hK R n qx e1)
    | @rol a xs ds sx qx =>
      have e : (ds.mapM (py M n)).map PyData.list = some p := e
      obtain ⟨ps, e1, rfl⟩ := Option.map_eq_some_iff.mp e
      exact .lst (hK ▸ sx.seq) (py_dps hK R n qx e1)
    | @obj m a ha =>
      have e : (match M[m]? with
        | some (.lst xs) => (xs.mapM (py M n)).map PyData.list
        | _ => none) = some p := e
      cases e1 : M[m]? with
      | none => rw [e1] at e; cases e
      | some o =>
        rw [e1] at e
        cases o with
        | dct => cases e
        | lst ds =>
          obtain ⟨vs, hv, qv⟩ := RO.lst_of R ha e1
          obtain ⟨ps, e1, rfl⟩ := Option.map_eq_some_iff.mp e
          exact .lst (SqL.of hv) (py_dps hK R n qv e1)
    | pr => cases e
    | fn f => cases e
    | ty t => cases e
theorem py_dps (hK : X.K = L.K) (R : RM L H μ M) (n : Nat) : ∀ {ds : List D} {vs : List V} {ps : List PyData}, RDs L H μ vs ds → ds.mapM (py M n) = some ps → DpAll X.K H vs ps
  | [], _, _, h, e => by
    cases h
    rw [List.mapM_nil] at e
    cases e
    exact .nil
  | d :: ds, _, _, h, e => by
    cases h with
    | cons a b =>
      rw [List.mapM_cons] at e
      cases e1 : py M n d with
      | none => rw [e1] at e; cases e
      | some p =>
        rw [e1] at e
        cases e2 : ds.mapM (py M n) with
        | none => rw [e2] at e; cases e
        | some ps =>
          rw [e2] at e
          cases e
          exact .cons (py_dp hK R n a e1) (py_dps hK R n b e2)
end
mutual
theorem py_deep : ∀ (n : Nat) {d : D} {p : PyData}, py M n d = some p → p.canLay0 = true ∧ p.depth ≤ n
  | 0, _, _, e => by cases e
  | n + 1, d, p, e => by
    cases d with
    | non => cases e; exact ⟨rfl, Nat.zero_le _⟩
    | bl b => cases e; exact ⟨rfl, Nat.zero_le _⟩
    | int i => cases e; exact ⟨rfl, Nat.zero_le _⟩
    | str s =>
      have e : (if PyData.canLay0 (.str s) = true then some (PyData.str s) else none) = some p := e
      split at e
      · rename_i h
        cases e; exact ⟨h, Nat.zero_le _⟩
      · cases e
    | tup ds =>
      have e : (ds.mapM (py M n)).map PyData.tuple = some p := e
      obtain ⟨ps, e1, rfl⟩ := Option.map_eq_some_iff.mp e
      obtain ⟨a, b⟩ := py_deeps n e1
      exact ⟨by rw [PyData.canLay0]; exact a, by rw [PyData.depth]; omega⟩
    | rol ds =>
      have e : (ds.mapM (py M n)).map PyData.list = some p := e
      obtain ⟨ps, e1, rfl⟩ := Option.map_eq_some_iff.mp e
      obtain ⟨a, b⟩ := py_deeps n e1
      exact ⟨by rw [PyData.canLay0]; exact a, by rw [PyData.depth]; omega⟩
    | obj m =>
      have e : (match M[m]? with
        | some (.lst xs) => (xs.mapM (py M n)).map PyData.list
        | _ => none) = some p := e
      cases e1 : M[m]? with
      | none => rw [e1] at e; cases e
      | some o =>
        rw [e1] at e
        cases o with
        | dct => cases e
        | lst ds =>
          obtain ⟨ps, e1, rfl⟩ := Option.map_eq_some_iff.mp e
          obtain ⟨a, b⟩ := py_deeps n e1
          exact ⟨by rw [PyData.canLay0]; exact a, by rw [PyData.depth]; omega⟩
    | pr => cases e
    | fn f => cases e
    | ty t => cases e
theorem py_deeps (n : Nat) : ∀ {ds : List D} {ps : List PyData}, ds.mapM (py M n) = some ps → PyData.canLayAll0 ps = true ∧ PyData.depthAll ps ≤ n
  | [], _, e => by
    rw [List.mapM_nil] at e
    cases e
    exact ⟨rfl, Nat.zero_le _⟩
  | d :: ds, _, e => by
    rw [List.mapM_cons] at e
    cases e1 : py M n d with
    | none => rw [e1] at e; cases e
    | some p =>
      rw [e1] at e
      cases e2 : ds.mapM (py M n) with
      | none => rw [e2] at e; cases e
      | some ps =>
        rw [e2] at e
        cases e
        obtain ⟨a1, b1⟩ := py_deep n e1
        obtain ⟨a2, b2⟩ := py_deeps n e2
        refine ⟨?_, ?_⟩
        · rw [PyData.canLayAll0, a1, a2]; rfl
        · rw [PyData.depthAll]; omega
end
theorem py_shaped {d : D} {p : PyData} (e : py M DEEP d = some p) : SeqAt.shaped p = true := by
  obtain ⟨a, b⟩ := py_deep DEEP e
  have h : p.depth ≤ 9 := b
  show (p.canLay0 && decide (p.depth ≤ 64)) = true
  rw [a, decide_eq_true (by omega)]
  rfl
def rCmp (L : Place) (op : CmpOp) : R2 := fun x y H Q => ∃ M μ dx dy, RM L H μ M ∧ RD L H μ x dx ∧ RD L H μ y dy ∧ Tq (RD L) L H μ (cmpop op dx dy M) NoX Q
theorem isNon_iff {v : V} {d : D} (h : RD L H μ v d) : decide (v = .non) = isNon d := by
  cases h <;> rfl
theorem opt_ok {α β : Type} {rel : Hp → List Addr → β → α → Prop} {o : Option α} {Xs : Exn → Mem → Prop} {Q : β → Hp → Prop} (h : Tq rel L H μ (ofOpt o M) Xs Q) : ∃ a, o = some a ∧ Tq rel L H μ (.ok a M) Xs Q := by
  cases o with
  | none => exact h.elim
  | some a => exact ⟨a, rfl, h⟩
theorem ord_ok {f : Int → Int → Bool} {dx dy : D} {b : Bool} (e : ordO f dx dy = some b) : ∃ i j, dx = .int i ∧ dy = .int j ∧ f i j = b := by
  unfold ordO at e
  split at e
  · cases e; exact ⟨_, _, rfl, rfl, rfl⟩
  · cases e
theorem eqO_ok {dx dy : D} {b : Bool} (e : eqO dx dy M = some b) : (∃ i j, dx = .int i ∧ dy = .int j ∧ b = decide (i = j)) ∨ (∃ i j, dx = .str i ∧ dy = .str j ∧ b = decide (i = j)) ∨
    ∃ p q, py M DEEP dx = some p ∧ py M DEEP dy = some q ∧ PyData.eqv p q = b := by
  unfold eqO at e
  split at e
  · cases e; exact .inl ⟨_, _, rfl, rfl, rfl⟩
  · cases e; exact .inr (.inl ⟨_, _, rfl, rfl, rfl⟩)
  · obtain ⟨p, h1, e⟩ := Option.bind_eq_some_iff.mp e
    obtain ⟨q, h2, e⟩ := Option.map_eq_some_iff.mp e
    exact .inr (.inr ⟨p, q, h1, h2, e⟩)
theorem memO_ok {dx dy : D} {b : Bool} (e : memO dx dy M = some b) : ∃ p ps, py M DEEP dx = some p ∧ py M DEEP dy = some (.list ps) ∧ (ps.any fun z => PyData.eqv z p) = b := by
  unfold memO at e
  obtain ⟨p, h1, e⟩ := Option.bind_eq_some_iff.mp e
  obtain ⟨q, h2, e⟩ := Option.bind_eq_some_iff.mp e
  cases q with
  | list ps => cases e; exact ⟨p, ps, h1, h2, rfl⟩
  | _ => cases e
theorem op_cmp (hK : X.K = L.K) (hu : X.A.units + 65 < cLine) (op : CmpOp) : OpR X (compareOp op) (rCmp L op) := by
  intro pins s σ H x y v u Q I rx ry h
  obtain ⟨M, μ, dx, dy, R, hx, hy, h⟩ := h
  obtain ⟨d, e0, hd⟩ := opt_ok h
  obtain ⟨b, e, rfl⟩ := Option.map_eq_some_iff.mp e0
  have q := hd.now R (.bl b)
  clear h e0 hd
  cases op with
  | Eq =>
    rcases eqO_ok e with ⟨i, j, rfl, rfl, rfl⟩ | ⟨i, j, rfl, rfl, rfl⟩ | ⟨p, p', e1, e2, rfl⟩
    · cases hx
      cases hy
      exact op_eq pins s σ H _ _ v u Q I rx ry ⟨rfl, by rw [dec_int, Bool.beq_eq_decide_eq]; exact q⟩
    · cases hx
      cases hy
      exact op_eq pins s σ H _ _ v u Q I rx ry ⟨rfl, by rw [dec_str, Bool.beq_eq_decide_eq]; exact q⟩
    · exact op_eqD (by omega) pins s σ H _ _ v u Q I rx ry ⟨p, p', py_dp hK R _ hx e1, py_dp hK R _ hy e2, py_shaped e1, py_shaped e2, q⟩
  | NotEq =>
    obtain ⟨c, e0, rfl⟩ := Option.map_eq_some_iff.mp e
    rcases eqO_ok e0 with ⟨i, j, rfl, rfl, rfl⟩ | ⟨i, j, rfl, rfl, rfl⟩ | ⟨p, p', e1, e2, rfl⟩
    · cases hx
      cases hy
      exact op_ne pins s σ H _ _ v u Q I rx ry ⟨rfl, by rw [dec_int, Bool.beq_eq_decide_eq]; exact q⟩
    · cases hx
      cases hy
      exact op_ne pins s σ H _ _ v u Q I rx ry ⟨rfl, by rw [dec_str, Bool.beq_eq_decide_eq]; exact q⟩
    · exact op_neD (by omega) pins s σ H _ _ v u Q I rx ry ⟨p, p', py_dp hK R _ hx e1, py_dp hK R _ hy e2, py_shaped e1, py_shaped e2, q⟩
  | Lt =>
    obtain ⟨i, j, rfl, rfl, rfl⟩ := ord_ok e
    cases hx
    cases hy
    exact op_lt pins s σ H _ _ v u Q I rx ry ⟨i, j, rfl, rfl, q⟩
  | LtE =>
    obtain ⟨i, j, rfl, rfl, rfl⟩ := ord_ok e
    cases hx
    cases hy
    exact op_le pins s σ H _ _ v u Q I rx ry ⟨i, j, rfl, rfl, q⟩
  | Gt =>
    obtain ⟨i, j, rfl, rfl, rfl⟩ := ord_ok e
    cases hx
    cases hy
    exact op_gt pins s σ H _ _ v u Q I rx ry ⟨i, j, rfl, rfl, q⟩
  | GtE =>
    obtain ⟨i, j, rfl, rfl, rfl⟩ := ord_ok e
    cases hx
    cases hy
    exact op_ge pins s σ H _ _ v u Q I rx ry ⟨i, j, rfl, rfl, q⟩
  | Is =>
    have e : (if isNon dy = true then some (isNon dx) else none) = some b := e
    split at e
    · rename_i c
      cases e
      have ey : dy = .non := by
        cases dy <;> first | rfl | cases c
      subst ey
      cases hy
      exact op_isN pins s σ H _ _ v u Q I rx ry ⟨rfl, by rw [isNon_iff hx]; exact q⟩
    · cases e
  | IsNot =>
    have e : (if isNon dy = true then some (!isNon dx) else none) = some b := e
    split at e
    · rename_i c
      cases e
      have ey : dy = .non := by
        cases dy <;> first | rfl | cases c
      subst ey
      cases hy
      exact op_notN pins s σ H _ _ v u Q I rx ry ⟨rfl, by rw [isNon_iff hx]; exact q⟩
    · cases e
  | In =>
    obtain ⟨p, ps, e1, e2, rfl⟩ := memO_ok e
    exact op_inD hu pins s σ H _ _ v u Q I rx ry ⟨p, ps, py_dp hK R _ hx e1, py_dp hK R _ hy e2, py_shaped e1, py_shaped e2, q⟩
  | NotIn =>
    obtain ⟨c, e0, rfl⟩ := Option.map_eq_some_iff.mp e
    obtain ⟨p, ps, e1, e2, rfl⟩ := memO_ok e0
    exact op_notInD hu pins s σ H _ _ v u Q I rx ry ⟨p, ps, py_dp hK R _ hx e1, py_dp hK R _ hy e2, py_shaped e1, py_shaped e2, q⟩

/-! ### items, slices -/
theorem lstO_rd (R : RM L H μ M) {n : Nat} {a : Addr} {ds : List D} (ha : μ[n]? = some a) (e : lstO M n = some ds) : ∃ xs, H a = some (.lst xs) ∧ RDs L H μ xs ds := by
  unfold lstO at e
  split at e
  · rename_i h1
    cases e
    exact RO.lst_of R ha h1
  · cases e
theorem lstO_at {n : Nat} {ds : List D} (e : lstO M n = some ds) : M[n]? = some (.lst ds) := by
  unfold lstO at e
  split at e
  · rename_i h1
    cases e
    exact h1
  · cases e
theorem opt_bind {α : Type} {o : Option α} {f : α → Mem → Res D} {Xs : Exn → Mem → Prop} (h : Tq (RD L) L H μ ((ofOpt o M).bind f) Xs Q) : ∃ a, o = some a ∧ Tq (RD L) L H μ (f a M) Xs Q := by
  cases o with
  | none => exact h.elim
  | some a => exact ⟨a, rfl, h⟩
theorem items_seq (hK : X.K = L.K) (R : RM L H μ M) {v : V} {d : D} {ds : List D} (h : RD L H μ v d) (e : items d M = some ds) : ∃ a xs, v = .ref a ∧ (SqL X.K H a xs ∨ SqT X.K H a xs) ∧ RDs L H μ xs ds := by
  cases h with
  | @tup a xs _ s q => cases e; exact ⟨a, xs, rfl, .inr (hK ▸ s.seq), q⟩
  | @rol a xs _ s q => cases e; exact ⟨a, xs, rfl, .inl (hK ▸ s.seq), q⟩
  | @obj n a ha =>
    obtain ⟨vs, hv, qv⟩ := lstO_rd R ha e
    exact ⟨a, vs, rfl, .inl (SqL.of hv), qv⟩
  | _ => cases e
theorem item_at {xs : List V} {ds : List D} {i : Int} {d : D} (q : RDs L H μ xs ds) (e : item ds i = some d) : ∃ v, atI xs i = some v ∧ RD L H μ v d := by
  unfold item at e
  obtain ⟨j, e1, e2⟩ := Option.bind_eq_some_iff.mp e
  obtain ⟨v, h1, h2⟩ := q.get e2
  refine ⟨v, ?_, h2⟩
  unfold atI
  rw [q.length]
  have e3 : ixN ds.length i = some j := e1
  rw [e3]
  exact h1
def rIx (L : Place) : R2 := fun x y H Q => ∃ M μ dx dy, RM L H μ M ∧ RD L H μ x dx ∧ RD L H μ y dy ∧ Tq (RD L) L H μ (idxD dx dy M) NoX Q
theorem ix_all (hK : X.K = L.K) : IxR X (rIx L) := by
  intro value slice pins s σ H x y v u Q I rx ry h hs
  obtain ⟨M, μ, dx, dy, R, hx, hy, h⟩ := h
  obtain ⟨d, e, hd⟩ := opt_ok h
  unfold idxO at e
  split at e
  · cases hy
    obtain ⟨ds, e1, e2⟩ := Option.bind_eq_some_iff.mp e
    obtain ⟨a, xs, rfl, sx, q⟩ := items_seq hK R hx e1
    obtain ⟨w, h1, h2⟩ := item_at q e2
    have qq := hd.now R h2
    rcases sx with sx | sx
    · exact ix_list value slice pins s σ H _ _ v u Q I rx ry ⟨a, xs, _, w, rfl, rfl, sx, h1, qq⟩ hs
    · exact ix_tup value slice pins s σ H _ _ v u Q I rx ry ⟨a, xs, _, w, rfl, rfl, sx, h1, qq⟩ hs
  · cases e
theorem like_ok {f : List D → Option (List D)} {x : V} {d : D} {Xs : Exn → Mem → Prop} (hK : X.K = L.K) (R : RM L H μ M) (hx : RD L H μ x d) (h : Tq (RD L) L H μ (likeD f d M) Xs Q) :
    ∃ a xs ds es, x = .ref a ∧ RDs L H μ xs ds ∧ f ds = some es ∧ ((d = .tup ds ∧ SqT X.K H a xs ∧ Tq (RD L) L H μ (.ok (.tup es) M) Xs Q) ∨ (SqL X.K H a xs ∧ Tq (RD L) L H μ (alloc (.lst es) M) Xs Q)) := by
  unfold likeD at h
  cases hx with
  | @tup a xs ds s q =>
    obtain ⟨z, e, h⟩ := opt_ok h
    obtain ⟨es, e2, rfl⟩ := Option.map_eq_some_iff.mp e
    exact ⟨a, xs, ds, es, rfl, q, e2, .inl ⟨rfl, hK ▸ s.seq, h⟩⟩
  | @obj n a ha =>
    simp only at h
    split at h
    · rename_i zs h1
      obtain ⟨vs, hv, qv⟩ := RO.lst_of R ha h1
      split at h
      · rename_i es h2
        exact ⟨a, vs, zs, es, rfl, qv, h2, .inr ⟨SqL.of hv, h⟩⟩
      · exact h.elim
    · exact h.elim
  | _ => exact h.elim
theorem bound_ix (n : Nat) (k : Nat) : ∀ o : Option Int, HT.sIx n k o = bound n k o
  | none => HT.sIx_none ..
  | some i => by
    show (if i < 0 then (i + (n : Int)).toNat else min i.toNat n) = if 0 ≤ i then min i.toNat n else (i + (n : Int)).toNat
    by_cases h : 0 ≤ i
    · rw [if_pos h, if_neg (by omega)]
    · rw [if_neg h, if_pos (by omega)]
theorem cut_rd {xs : List V} {ds : List D} (lo hi : Option Int) (q : RDs L H μ xs ds) : RDs L H μ (cutV xs lo hi) (cut ds lo hi) := by
  unfold cutV cut
  rw [q.length, bound_ix, bound_ix]
  exact RDs.take _ (RDs.drop _ q)
end
end Mi
end
section
set_option Elab.async false
set_option linter.all false
set_option maxRecDepth 100000
set_option maxHeartbeats 1000000
set_option exponentiation.threshold 20000
/-! MiD: slices, built-in functions, methods by data. -/
namespace Mi
open PySem PySem.Spec PyProof.Rows L2
section
variable {prog : Program} {w : World} {A : Around} {E : Value → Shared → Prop} {s : Shared}
/-- a slice object with all its three parts -/
def SlOf (h : Heap) (sl : Addr) (lo hi st : Value) : Prop := ∃ o : Obj, h.get? sl = some o ∧ o.cls = .type "slice" ∧ o.data = .fields #[lo, hi, st]
theorem sliced {sl : Addr} {vl vu vs : Value} {lo hi : Option Int} {c : Int} {n : Nat} {i : Int} {k : Nat} {Q : Int × Int × Nat → Shared → Prop} (hs : SlOf s.heap sl vl vu vs) (pl : IsPart vl lo) (pu : IsPart vu hi) (ps : IsPart vs (some c)) (hc : c ≠ 0)
    (e1 : (Builtin.Slice.sliceAdjust lo hi c (n : Int)).1 = i) (e2 : Builtin.Slice.slicePlaces (Builtin.Slice.sliceAdjust lo hi c (n : Int)).1 (Builtin.Slice.sliceAdjust lo hi c (n : Int)).2 c = k)
    (h : Q (i, c, k) s) : wpAny (model prog w) A (Builtin.Slice.sliceApplied (.ref sl) (pure (n : Int))) Q E s := by
  obtain ⟨os, hos, hcs, hds⟩ := id hs
  unfold Builtin.Slice.sliceApplied Builtin.Slice.sliceFields
  refine wpAny_bind (wpAny_bind (wpAny_field hos hds (x := vl) rfl (wpAny_bind (wpAny_field hos hds (x := vu) rfl (wpAny_bind (wpAny_field hos hds (x := vs) rfl (wpAny_pure ?_)))))))
  refine wpAny_bind (HT.slicePart_ ps ?_)
  show wpAny _ _ (if (c == 0) = true then _ else _) _ _ s
  rw [if_neg (by simpa using hc)]
  refine wpAny_bind (HT.slicePart_ pl (wpAny_bind (HT.slicePart_ pu (wpAny_bind (wpAny_pure ?_)))))
  subst e1 e2
  exact wpAny_pure h
/-- a tuple's items by a slice with a step other than 1 -/
theorem tuple_step {t sl : Addr} {items : Array Value} {vl vu vs : Value} {lo hi : Option Int} {c : Int} {i : Int} {k : Nat} {ys : List Value} {Q : Value → Shared → Prop} (ht : IsTup s.heap t items) (hs : SlOf s.heap sl vl vu vs) (pl : IsPart vl lo) (pu : IsPart vu hi) (ps : IsPart vs (some c))
    (hc : c ≠ 0) (h1 : c ≠ 1) (e1 : (Builtin.Slice.sliceAdjust lo hi c (items.size : Int)).1 = i)
    (e2 : Builtin.Slice.slicePlaces (Builtin.Slice.sliceAdjust lo hi c (items.size : Int)).1 (Builtin.Slice.sliceAdjust lo hi c (items.size : Int)).2 c = k)
    (hy : (List.range k).filterMap (fun (m : Nat) => items[(i + (m : Int) * c).toNat]?) = ys) (hz : ys.length ≤ sizeLine)
    (h : Q (.ref s.heap.objs.size) { s with heap := s.heap.push { cls := .type "tuple", data := .seq ys.toArray } }) : wpAny (model prog w) A (getItem (.ref t) (.ref sl)) Q E s := by
  obtain ⟨os, hos, hcs, hds⟩ := id hs
  have hT : s.TypeIs (.ref sl) "slice" := ⟨os, hos, hcs⟩
  have hok : sizeOk (.seq ys.toArray) := by
    show ys.toArray.size ≤ sizeLine
    rw [List.size_toArray]
    exact hz
  unfold getItem
  try with_reducible refine wpAny_holding ?_
  first | refine wpAny_bind (wpAny_pure ?_) | skip
  refine wpAny_bind (wpAny_sequenceKey ht.typeIs (by decide) ?_)
  refine wpAny_bind (wpAny_callSpecial?_slot (name := Str.ofString "__getitem__") ht.typeIs slot_tuple_getitem (wpAny_call_entry slot_tuple_getitem ht.typeIs PyProof.Rows.entry_tuple_getitem ?_ (PyProof.Rows.args_tuple_getitem _ _)))
  show wpAny _ _ (Builtin.Tuple.tupleItemsOf (.ref t) >>= _) _ _ s
  refine wpAny_bind (PyProof.Rows.tupleItemsOf_ ht ?_)
  refine wpAny_bind (wpAny_typeOf hT ?_)
  rw [if_pos (by decide)]
  refine wpAny_bind (sliced hs pl pu ps hc e1 e2 ?_)
  have hno : ¬ ((i == 0 && c == 1 && k == items.size) = true) := fun q => by
    rw [Bool.and_eq_true, Bool.and_eq_true] at q
    exact h1 (eq_of_beq q.1.2)
  show wpAny _ _ (if (i == 0 && c == 1 && k == items.size) = true then _ else _) _ _ s
  rw [if_neg hno, hy]
  first
    | exact wpAny_bind (m := Builtin.Tuple.tupleExact _) (wpAny_newObj_type (wpAny_pure ⟨_, rfl, wpAny_pure h⟩) hok)
    | exact wpAny_bind (m := Builtin.Tuple.tupleExact _) (wpAny_newObj_type (wpAny_bind (wpAny_pure (wpAny_pure ⟨_, rfl, wpAny_pure h⟩))) hok)
    | exact wpAny_bind (wpAny_bind (m := Builtin.Tuple.tupleExact _) (wpAny_newObj_type (wpAny_pure (wpAny_pure ⟨_, rfl, wpAny_pure h⟩)) hok))
    | exact wpAny_bind (wpAny_bind (m := Builtin.Tuple.tupleExact _) (wpAny_newObj_type (wpAny_pure ⟨_, rfl, wpAny_pure h⟩) hok))
theorem fm_same {α β : Type} {f g : α → Option β} : ∀ l : List α, (∀ x ∈ l, f x = g x) → l.filterMap f = l.filterMap g
  | [], _ => rfl
  | x :: l, h => by
    rw [List.filterMap_cons, List.filterMap_cons, h x List.mem_cons_self, fm_same l fun y hy => h y (List.mem_cons_of_mem _ hy)]
theorem range_back (l : List Value) : (List.range l.length).filterMap (fun (m : Nat) => l.toArray[((l.length : Int) - 1 + (m : Int) * (-1)).toNat]?) = l.reverse := by
  apply List.ext_getElem?
  intro j
  have e : (List.range l.length).filterMap (fun (m : Nat) => l.toArray[((l.length : Int) - 1 + (m : Int) * (-1)).toNat]?) = (List.range l.length).map (fun m => l.getD (l.length - 1 - m) .none) := by
    rw [← List.filterMap_eq_map]
    refine fm_same _ fun m hm => ?_
    have h1 := List.mem_range.mp hm
    have e1 : ((l.length : Int) - 1 + (m : Int) * (-1)).toNat = l.length - 1 - m := by omega
    rw [e1]
    have h2 : l.length - 1 - m < l.length := by omega
    simp [List.getD, h2]
  rw [e]
  by_cases hj : j < l.length
  · rw [List.getElem?_map, List.getElem?_range hj, List.getElem?_reverse hj]
    have h2 : l.length - 1 - j < l.length := by omega
    simp [List.getD, h2]
  · rw [List.getElem?_eq_none (by simpa using hj), List.getElem?_eq_none (by simpa using hj)]
theorem back_bounds (n : Nat) : (Builtin.Slice.sliceAdjust none none (-1) (n : Int)).1 = (n : Int) - 1 ∧ Builtin.Slice.slicePlaces (Builtin.Slice.sliceAdjust none none (-1) (n : Int)).1 (Builtin.Slice.sliceAdjust none none (-1) (n : Int)).2 (-1) = n := by
  refine ⟨rfl, ?_⟩
  show Builtin.Slice.slicePlaces ((n : Int) - 1) (-1) (-1) = n
  unfold Builtin.Slice.slicePlaces
  rw [if_neg (by decide)]
  split
  · have e : ((n : Int) - 1 - -1 - 1) / (- -1) = (n : Int) - 1 := by
      show ((n : Int) - 1 - -1 - 1) / 1 = (n : Int) - 1
      rw [Int.ediv_one]
      omega
    rw [e]
    omega
  · omega
end
section
variable {L : Place} {X : Cx} {H : Hp} {μ : List Addr} {M : Mem} {Q : VK}
theorem cut_all {ds : List D} {lo hi : Option Int} (h : bound ds.length 0 lo = 0 ∧ bound ds.length ds.length hi = ds.length) : cut ds lo hi = ds := by
  unfold cut
  rw [h.1, h.2]
  simp
def rSl (L : Place) : V → Option Int → Option Int → Hp → VK → Prop := fun x lo hi H Q => ∃ M μ d, RM L H μ M ∧ RD L H μ x d ∧ Tq (RD L) L H μ (likeD (fun xs => some (cut xs lo hi)) d M) NoX Q
theorem sl_all (hK : X.K = L.K) : SlR X (rSl L) := by
  intro pins s σ H x v vl vu lo hi sl Q I rx hs pl pu h
  obtain ⟨M, μ, d, R, hx, h⟩ := h
  obtain ⟨a, xs, ds, es, rfl, q, e, h⟩ := like_ok hK R hx h
  cases e
  rcases h with ⟨rfl, sx, h⟩ | ⟨sx, h⟩
  · cases rx
    obtain ⟨its, r, ht, hz⟩ := I.tuple sx
    have hl : its.toArray.size = xs.length := by rw [List.size_toArray]; exact r.length.symm
    refine ⟨"tuple", _, slot_tuple_getitem.lookup, ht.typeIs, ?_⟩
    by_cases hw : HT.sIx xs.length 0 lo = 0 ∧ HT.sIx xs.length xs.length hi = xs.length
    · refine L2.getItem_tuple_whole ht hs pl pu (by rw [hl]; exact hw) ⟨.ref a, H, I, rfl, ?_⟩
      rw [q.length, bound_ix, bound_ix] at hw
      rw [cut_all hw] at h
      exact h.now R hx
    · refine HT.getItem_tuple_cut ht hs pl pu (by rw [hl]; exact hw) ?_ (by rw [hl]; exact hz)
      rw [hl]
      exact tup_ep I (xs := cutV xs lo hi) ((r.drop _).take _) (Nat.le_trans (cutV_length xs lo hi) hz) (h.tup R (cut_rd lo hi q))
  · exact sl_list pins s σ H _ v vl vu lo hi sl Q I rx hs pl pu ⟨a, xs, rfl, sx, h.lst R (cut_rd lo hi q)⟩
/-- the parts of a slice that is told by k: [::-1] (2), .. -/
def back : Int := -1
theorem sl3_back {pins : List (Addr × Obj)} {s : Shared} {σ : L2.St} {x : V} {d : D} {v : Value} {value : Expr} {n : Nat} {p1 p2 p3 : Pos} (hK : X.K = L.K) (I : Inv X pins σ H s) (rx : RelV x v) (R : RM L H μ M) (hx : RD L H μ x d)
    (h : Tq (RD L) L H μ (slc3D 2 d M) NoX Q) :
    wpAny (model X.prog X.w) X.A (eval (.Slice none none (some (.UnaryOp .USub (.Constant (.int 1) n p1) p2)) p3) X.env)
      (fun u s' => wpAny (model X.prog X.w) X.A (subscriptTail value (.Slice none none (some (.UnaryOp .USub (.Constant (.int 1) n p1) p2)) p3) v u) (EP X pins σ Q) X.xe s') X.xe s := by
  have hst : PO X (some (.UnaryOp .USub (.Constant (.int 1) n p1) p2)) (tPart (tUn (rU fun i => .int (-i)) (tC (.int 1)))) := po_some (pe_un un_neg pe_int)
  refine wpAny_Slice (thn (po_none.run pins s σ H (fun o H2 => o = none ∧ H2 = H) I ⟨rfl, rfl⟩) fun vl s2 ⟨l, H2, I2, pl, el, e2⟩ => ?_)
  subst el e2
  refine thn (po_none.run pins s2 σ H2 (fun o H3 => o = none ∧ H3 = H2) I2 ⟨rfl, rfl⟩) fun vu s3 ⟨u, H3, I3, pu, eu, e3⟩ => ?_
  subst eu e3
  refine thn (hst.run pins s3 σ H3 (fun o H4 => o = some (-1) ∧ H4 = H3) I3 ⟨1, rfl, -1, rfl, rfl, rfl⟩) fun vs s4 ⟨o, H4, I4, ps, eo, e4⟩ => ?_
  subst eo e4
  have I5 : Inv X pins σ H4 { s4 with heap := s4.heap.push { cls := .type "slice", data := .fields #[vl, vu, vs] } } := I4.kept (t' := s4.toks) fun b ob q => Heap.get?_push_of_some _ q
  obtain ⟨a, xs, ds, es, rfl, q, e, h⟩ := like_ok hK R hx h
  have e' : some ds.reverse = some es := e
  cases e'
  cases rx
  rcases h with ⟨rfl, sx, h⟩ | ⟨sx, h⟩
  · obtain ⟨its, r, ht, hz⟩ := I5.tuple sx
    have hl := r.length
    have bb := back_bounds its.length
    refine tail_any (ops := [.ref a, .ref s4.heap.objs.size]) ht.typeIs slot_tuple_getitem.lookup ?_ (by with_unfolding_all rfl)
    refine tuple_step (c := -1) (i := (its.length : Int) - 1) (k := its.length) (ys := its.reverse) ht ⟨_, Heap.get?_push_size _ rfl, rfl, rfl⟩ pl pu ps (by decide) (by decide) ?_ ?_ ?_ (by rw [List.length_reverse, ← hl]; exact hz) ?_
    · rw [List.size_toArray]; exact bb.1
    · rw [List.size_toArray]; exact bb.2
    · exact range_back its
    · exact tup_ep I5 r.reverse (by rw [List.length_reverse]; exact hz) (h.tup R q.reverse)
  · obtain ⟨its, r, ht, hz⟩ := I5.list sx
    have hl := r.length
    refine tail_any (ops := [.ref a, .ref s4.heap.objs.size]) ht.isList.typeIs (PySem.slot_list_getitem.lookup) ?_ (by with_unfolding_all rfl)
    refine wpAny_getItem_list_slice ht.isList (Heap.IsSliceOf.new _ vl vu vs) pl pu ps (by decide) ?_ (by rw [List.size_toArray]; omega)
    rw [PySem.W.krv_pick]
    refine ⟨.ref _, _, I5.laid (t' := s4.toks) (o := .lst xs.reverse) (fun b ob q => Heap.get?_push_of_some _ q) (Nat.le_refl _) ?_, rfl, h.lst R q.reverse _ (I5.hok.fresh (Nat.le_refl _))⟩
    exact ⟨by rw [List.length_reverse]; exact hz, _, 0, r.reverse, Heap.get?_push_size _ rfl⟩
end
end Mi
end
section
set_option Elab.async false
set_option linter.all false
set_option maxRecDepth 100000
set_option maxHeartbeats 1000000
set_option exponentiation.threshold 20000
/-! MiE: built-in functions and methods by data. -/
namespace Mi
open PySem PySem.Spec PyProof.Rows L2
section
variable {L : Place} {X : Cx} {H : Hp} {μ : List Addr} {M : Mem} {Q : VK}
theorem ints_rd : ∀ {ds : List D} {is : List Int} {xs : List V}, RDs L H μ xs ds → intsD ds = some is → xs = is.map V.int
  | [], _, _, h, e => by cases h; cases e; rfl
  | d :: ds, _, _, h, e => by
    cases h with
    | cons a b =>
      cases d with
      | int i =>
        obtain ⟨js, e1, rfl⟩ := Option.map_eq_some_iff.mp (show (intsD ds).map (i :: ·) = some _ from e)
        cases a
        rw [ints_rd b e1]
        rfl
      | _ => cases e
theorem bools_rd : ∀ {ds : List D} {bs : List Bool} {xs : List V}, RDs L H μ xs ds → boolsD ds = some bs → xs = bs.map V.bl
  | [], _, _, h, e => by cases h; cases e; rfl
  | d :: ds, _, _, h, e => by
    cases h with
    | cons a b =>
      cases d with
      | bl c =>
        obtain ⟨cs, e1, rfl⟩ := Option.map_eq_some_iff.mp (show (boolsD ds).map (c :: ·) = some _ from e)
        cases a
        rw [bools_rd b e1]
        rfl
      | _ => cases e
def rBl (L : Place) (b : BF) : List V → Hp → VK → Prop := fun xs H Q => ∃ M μ ds, RM L H μ M ∧ RDs L H μ xs ds ∧ Tq (RD L) L H μ (blt b ds M) NoX Q
theorem one_rd {xs : List V} {d : D} (h : RDs L H μ xs [d]) : ∃ x, xs = [x] ∧ RD L H μ x d := by
  cases h with
  | cons a b => cases b; exact ⟨_, rfl, a⟩
theorem two_rd {xs : List V} {d e : D} (h : RDs L H μ xs [d, e]) : ∃ x y, xs = [x, y] ∧ RD L H μ x d ∧ RD L H μ y e := by
  cases h with
  | cons a b =>
    obtain ⟨y, rfl, c⟩ := one_rd b
    exact ⟨_, y, rfl, a, c⟩
theorem blt_len (hK : X.K = L.K) : CallR X (.builtin "len") (rBl L .len) := by
  intro pins s σ H xs us Q I r h
  obtain ⟨M, μ, ds, R, hx, h⟩ := h
  obtain ⟨d, e, h⟩ := opt_ok (show Tq (RD L) L H μ (ofOpt (bltO .len ds M) M) NoX Q from h)
  match ds, hx, e with
  | [x], hx, e =>
    obtain ⟨v, rfl, hv⟩ := one_rd hx
    obtain ⟨ys, e1, rfl⟩ := Option.map_eq_some_iff.mp (show (items x M).map (fun ys => D.int ys.length) = some d from e)
    obtain ⟨a, zs, rfl, sx, q⟩ := items_seq hK R hv e1
    exact call_len_seq pins s σ H _ us Q I r ⟨a, zs, rfl, sx, by rw [q.length]; exact h.now R (.int _)⟩
theorem blt_abs : CallR X (.builtin "abs") (rBl L .abs) := by
  intro pins s σ H xs us Q I r h
  obtain ⟨M, μ, ds, R, hx, h⟩ := h
  obtain ⟨d, e, h⟩ := opt_ok (show Tq (RD L) L H μ (ofOpt (bltO .abs ds M) M) NoX Q from h)
  match ds, hx, e with
  | [.int i], hx, e =>
    obtain ⟨v, rfl, hv⟩ := one_rd hx
    cases hv
    cases e
    exact call_abs pins s σ H _ us Q I r ⟨i, rfl, h.now R (.int _)⟩
theorem blt_int : CallR X (.type "int") (rBl L .int) := by
  intro pins s σ H xs us Q I r h
  obtain ⟨M, μ, ds, R, hx, h⟩ := h
  obtain ⟨d, e, h⟩ := opt_ok (show Tq (RD L) L H μ (ofOpt (bltO .int ds M) M) NoX Q from h)
  match ds, hx, e with
  | [.int i], hx, e =>
    obtain ⟨v, rfl, hv⟩ := one_rd hx
    cases hv
    cases e
    exact call_int1 pins s σ H _ us Q I r (.inl ⟨i, rfl, h.now R (.int _)⟩)
  | [.bl b], hx, e =>
    obtain ⟨v, rfl, hv⟩ := one_rd hx
    cases hv
    cases e
    exact call_int1 pins s σ H _ us Q I r (.inr ⟨b, rfl, h.now R (.int _)⟩)
theorem blt_max (hc : X.calm = true) : CallR X (.builtin "max") (rBl L .max) := by
  intro pins s σ H xs us Q I r h
  obtain ⟨M, μ, ds, R, hx, h⟩ := h
  obtain ⟨d, e, h⟩ := opt_ok (show Tq (RD L) L H μ (ofOpt (bltO .max ds M) M) NoX Q from h)
  match ds, hx, e with
  | [.int i, .int j], hx, e =>
    obtain ⟨v, w, rfl, hv, hw⟩ := two_rd hx
    cases hv
    cases hw
    cases e
    exact call_max2 hc pins s σ H _ us Q I r ⟨i, j, rfl, h.now R (.int _)⟩
theorem blt_min (hc : X.calm = true) : CallR X (.builtin "min") (rBl L .min) := by
  intro pins s σ H xs us Q I r h
  obtain ⟨M, μ, ds, R, hx, h⟩ := h
  obtain ⟨d, e, h⟩ := opt_ok (show Tq (RD L) L H μ (ofOpt (bltO .min ds M) M) NoX Q from h)
  match ds, hx, e with
  | [.int i, .int j], hx, e =>
    obtain ⟨v, w, rfl, hv, hw⟩ := two_rd hx
    cases hv
    cases hw
    cases e
    exact call_min2 hc pins s σ H _ us Q I r ⟨i, j, rfl, h.now R (.int _)⟩
theorem blt_sum (hK : X.K = L.K) (hc : X.calm = true) : CallR X (.builtin "sum") (rBl L .sum) := by
  intro pins s σ H xs us Q I r h
  obtain ⟨M, μ, ds, R, hx, h⟩ := h
  obtain ⟨d, e, h⟩ := opt_ok (show Tq (RD L) L H μ (ofOpt (bltO .sum ds M) M) NoX Q from h)
  match ds, hx, e with
  | [x], hx, e =>
    obtain ⟨v, rfl, hv⟩ := one_rd hx
    obtain ⟨ys, e1, e2⟩ := Option.bind_eq_some_iff.mp (show ((items x M).bind fun ys => (intsD ys).map fun is => D.int is.sum) = some d from e)
    obtain ⟨is, e3, rfl⟩ := Option.map_eq_some_iff.mp e2
    obtain ⟨a, zs, rfl, sx, q⟩ := items_seq hK R hv e1
    obtain rfl := ints_rd q e3
    have hq := h.now R (.int _)
    rcases sx with sx | sx
    · exact cr_sum hc pins s σ H _ us Q I r ⟨a, is, rfl, sx, hq⟩
    · rw [Vals.ref1 r]
      obtain ⟨its, rv, hl, _⟩ := I.tuple sx
      have hi := rv.ints
      obtain ⟨ps, hp⟩ := hi.allInts.items
      have hn : numsOf its.toArray.toList = is := by rw [show its.toArray.toList = its from rfl, hi.numsOf]
      have hl' : s.heap.IsTuple a its.toArray := hl
      rw [hp] at hl' hn
      rw [nums_intItems] at hn
      refine PySem.W.ktm_sumG (I.ok.hd hc) hl' fun h' tk t' hk => ?_
      rw [preSum_eq, List.take_of_length_le (by simp), hn]
      exact ⟨.int _, H, I.kept hk, ⟨_, rfl⟩, hq⟩
theorem blt_all (hK : X.K = L.K) (hc : X.calm = true) : CallR X (.builtin "all") (rBl L .all) := by
  intro pins s σ H xs us Q I r h
  obtain ⟨M, μ, ds, R, hx, h⟩ := h
  obtain ⟨d, e, h⟩ := opt_ok (show Tq (RD L) L H μ (ofOpt (bltO .all ds M) M) NoX Q from h)
  match ds, hx, e with
  | [.obj n], hx, e =>
    obtain ⟨v, rfl, hv⟩ := one_rd hx
    cases hv with
    | @obj _ a ha =>
      obtain ⟨ys, e1, e2⟩ := Option.bind_eq_some_iff.mp (show ((lstO M n).bind fun ys => (boolsD ys).map fun bs => D.bl (bs.all id)) = some d from e)
      obtain ⟨bs, e3, rfl⟩ := Option.map_eq_some_iff.mp e2
      obtain ⟨zs, hz, q⟩ := lstO_rd R ha e1
      obtain rfl := bools_rd q e3
      exact cr_all hc pins s σ H _ us Q I r ⟨a, bs, rfl, SqL.of hz, h.now R (.bl _)⟩
theorem blt_any (hK : X.K = L.K) (hc : X.calm = true) : CallR X (.builtin "any") (rBl L .any) := by
  intro pins s σ H xs us Q I r h
  obtain ⟨M, μ, ds, R, hx, h⟩ := h
  obtain ⟨d, e, h⟩ := opt_ok (show Tq (RD L) L H μ (ofOpt (bltO .any ds M) M) NoX Q from h)
  match ds, hx, e with
  | [.obj n], hx, e =>
    obtain ⟨v, rfl, hv⟩ := one_rd hx
    cases hv with
    | @obj _ a ha =>
      obtain ⟨ys, e1, e2⟩ := Option.bind_eq_some_iff.mp (show ((lstO M n).bind fun ys => (boolsD ys).map fun bs => D.bl (bs.any id)) = some d from e)
      obtain ⟨bs, e3, rfl⟩ := Option.map_eq_some_iff.mp e2
      obtain ⟨zs, hz, q⟩ := lstO_rd R ha e1
      obtain rfl := bools_rd q e3
      exact cr_any hc pins s σ H _ us Q I r ⟨a, bs, rfl, SqL.of hz, h.now R (.bl _)⟩
theorem seq_ok {f : List D → Res D} {ds : List D} {Xs : Exn → Mem → Prop} (h : Tq (RD L) L H μ (seqD f ds M) Xs Q) : ∃ x ys, ds = [x] ∧ items x M = some ys ∧ Tq (RD L) L H μ (f ys) Xs Q := by
  unfold seqD at h
  split at h
  · rename_i x
    cases e : items x M with
    | none => rw [e] at h; exact h.elim
    | some ys => rw [e] at h; exact ⟨x, ys, rfl, e, h⟩
  · exact h.elim
theorem blt_tuple (hK : X.K = L.K) : CallR X (.type "tuple") (rBl L .tuple) := by
  intro pins s σ H xs us Q I r h
  obtain ⟨M, μ, ds, R, hx, h0⟩ := h
  obtain ⟨x, ys, rfl, e, h⟩ := seq_ok h0
  obtain ⟨v, rfl, hv⟩ := one_rd hx
  cases x with
  | tup zs =>
    cases e
    have q := h.now R hv
    cases hv with
    | @tup a vs _ sx _ => exact call_tupOf pins s σ H _ us Q I r ⟨a, vs, rfl, .inr ⟨hK ▸ sx.seq, q⟩⟩
  | rol zs =>
    cases e
    cases hv with
    | @rol a vs _ sx q => exact call_tupOf pins s σ H _ us Q I r ⟨a, vs, rfl, .inl ⟨hK ▸ sx.seq, h.tup R q⟩⟩
  | obj n =>
    cases hv with
    | @obj _ a ha =>
      obtain ⟨vs, hz, q⟩ := lstO_rd R ha e
      exact call_tupOf pins s σ H _ us Q I r ⟨a, vs, rfl, .inl ⟨SqL.of hz, h.tup R q⟩⟩
  | _ => cases e
theorem blt_list (hK : X.K = L.K) : CallR X (.type "list") (rBl L .list) := by
  intro pins s σ H xs us Q I r h
  obtain ⟨M, μ, ds, R, hx, h⟩ := h
  obtain ⟨x, ys, rfl, e, h⟩ := seq_ok h
  obtain ⟨v, rfl, hv⟩ := one_rd hx
  obtain ⟨a, zs, rfl, sx, q⟩ := items_seq hK R hv e
  exact call_list_of pins s σ H _ us Q I r ⟨a, zs, rfl, sx, h.lst R q⟩
/-! ### isinstance -/
def kinds : List String := ["NoneType", "bool", "int", "str", "tuple", "list"]
theorem kind_ty (hK : X.K = L.K) (R : RM L H μ M) {v : V} {d : D} {k : Nat} (h : RD L H μ v d) (e : kindO d M = some k) : ∃ t, kinds[k]? = some t ∧ TyX X.K H v (.type t) := by
  cases h with
  | non => cases e; exact ⟨_, rfl, .base .non⟩
  | bl b => cases e; exact ⟨_, rfl, .base (.bl b)⟩
  | int i => cases e; exact ⟨_, rfl, .base (.int i)⟩
  | str x => cases e; exact ⟨_, rfl, .base (.str x)⟩
  | tup s q =>
    cases e
    refine ⟨_, rfl, ?_⟩
    rcases s with ⟨o, _, s⟩ | ⟨o, its, n, s, c, _⟩
    · exact .fTuple s
    · exact .kTuple (hK ▸ s) c
  | @obj n a ha =>
    have e : (match M[n]? with
      | some (.lst _) => some 5
      | _ => none) = some k := e
    split at e
    · rename_i h1
      cases e
      obtain ⟨xs, hx, _⟩ := RO.lst_of R ha h1
      exact ⟨_, rfl, .base (.lst hx)⟩
    · cases e
  | _ => cases e
/-- isinstance(x, T), T told by the built-in function's name -/
def isaT : BF → String
  | .isInt => "int"
  | .isBool => "bool"
  | .isTuple => "tuple"
  | .isStr => "str"
  | .isList => "list"
  | .isDict => "dict"
  | _ => ""
def isaB : BF → Nat → Bool
  | .isInt => fun k => k == 1 || k == 2
  | .isBool => fun k => k == 1
  | .isTuple => fun k => k == 4
  | .isStr => fun k => k == 3
  | .isList => fun k => k == 5
  | .isDict => fun _ => false
  | _ => fun _ => false
theorem isa_kit (b : BF) (hb : isaT b ≠ "") (k : Nat) (t : String) (h : kinds[k]? = some t) : PySem.W.kitOne X.K (.type t) (.type (isaT b)) = some (isaB b k) := by
  have key : ∀ (k : Nat) (t : String), kinds[k]? = some t → kitB t (isaT b) = some (isaB b k) := by
    intro k t h
    have hk : k < 6 := (List.getElem?_eq_some_iff.mp h).1
    match k, hk, h with
    | 0, _, h => cases h; cases b <;> first | decide +kernel | exact absurd rfl hb
    | 1, _, h => cases h; cases b <;> first | decide +kernel | exact absurd rfl hb
    | 2, _, h => cases h; cases b <;> first | decide +kernel | exact absurd rfl hb
    | 3, _, h => cases h; cases b <;> first | decide +kernel | exact absurd rfl hb
    | 4, _, h => cases h; cases b <;> first | decide +kernel | exact absurd rfl hb
    | 5, _, h => cases h; cases b <;> first | decide +kernel | exact absurd rfl hb
  exact kit_ty (key k t h)
def rIsa (L : Place) (b : BF) : List V → Hp → VK → Prop := fun xs H Q => ∃ M μ x d, RM L H μ M ∧ xs = [x, .ty (isaT b)] ∧ RD L H μ x d ∧ Tq (RD L) L H μ (blt b [d] M) NoX Q
theorem blt_isa (hK : X.K = L.K) (b : BF) (hb : isaT b ≠ "") : CallR X (.builtin "isinstance") (rIsa L b) := by
  intro pins s σ H xs us Q I r h
  obtain ⟨M, μ, x, d, R, rfl, hx, h⟩ := h
  have e0 : blt b [d] M = ofOpt (isaO (isaB b) d M) M := by
    cases b <;> first | rfl | exact absurd rfl hb
  rw [e0] at h
  obtain ⟨z, e, h⟩ := opt_ok h
  obtain ⟨k, e1, rfl⟩ := Option.map_eq_some_iff.mp (show (kindO d M).map (fun k => D.bl (isaB b k)) = some z from e)
  obtain ⟨t, e2, ty⟩ := kind_ty hK R hx e1
  exact call_isi pins s σ H _ us Q I r ⟨x, .ty (isaT b), .type t, .type (isaT b), isaB b k, rfl, .ty _, ty, isa_kit b hb k t e2, h.now R (.bl _)⟩

/-! ### repr -/
theorem blt_repr (hK : X.K = L.K) (hg : X.A.guards = some []) (hu : X.A.units + 65 < cLine) : CallR X (.builtin "repr") (rBl L .repr) := by
  intro pins s σ H xs us Q I r h
  obtain ⟨M, μ, ds, R, hx, h⟩ := h
  obtain ⟨d, e, h⟩ := opt_ok (show Tq (RD L) L H μ (ofOpt (bltO .repr ds M) M) NoX Q from h)
  match ds, hx, e with
  | [x], hx, e =>
    obtain ⟨v, rfl, hv⟩ := one_rd hx
    obtain ⟨u, rfl, ru⟩ := vals1 r
    obtain ⟨p, e1, e2⟩ := Option.bind_eq_some_iff.mp (show ((py M DEEP x).bind fun p => if p.showable = true ∧ p.shown.length ≤ LIM ∧ p.hasDict = false then some (D.str p.shown) else none) = some d from e)
    split at e2
    · rename_i c
      cases e2
      obtain ⟨c1, c2, c3⟩ := c
      rw [LIM_eq] at c2
      have hq := h.now R (.str _)
      have hp := py_dp hK R _ hv e1
      have hdeep : p.depth ≤ 9 := (py_deep DEEP e1).2
      obtain ⟨as, rd⟩ := Dp.reads I p v u hp ru
      cases hp with
      | non =>
        cases ru
        exact PySem.P.repr_of_none ⟨.str _, H, I.tok _, ⟨_, rfl⟩, hq⟩
      | bl b =>
        cases ru
        exact PySem.P.repr_of_bool ⟨.str _, H, I.tok _, ⟨_, rfl⟩, hq⟩
      | int i =>
        obtain ⟨t, rfl⟩ := ru
        exact PySem.P.repr_of_int (of_decide_eq_true c1) ⟨.str _, H, I.tok _, ⟨_, rfl⟩, hq⟩
      | str z =>
        obtain ⟨t, rfl⟩ := ru
        exact PySem.P.repr_of_str ⟨.str _, H, I.tok _, ⟨_, rfl⟩, hq⟩ c2
      | lst s' q' =>
        cases ru
        exact repr_of_reads' rd c1 (fun z => by rw [c3] at z; cases z) hg (by omega) (fun _ _ z => z) (fun h' u' tk hk => ⟨.str _, H, I.kept hk, ⟨_, rfl⟩, hq⟩) c2
      | tup s' q' =>
        cases ru
        exact repr_of_reads' rd c1 (fun z => by rw [c3] at z; cases z) hg (by omega) (fun _ _ z => z) (fun h' u' tk hk => ⟨.str _, H, I.kept hk, ⟨_, rfl⟩, hq⟩) c2
    · cases e2

/-! ### methods -/
def rMt (L : Place) (m : MF) : V → List V → Hp → VK → Prop := fun x xs H Q => ∃ M μ d ds, RM L H μ M ∧ RD L H μ x d ∧ RDs L H μ xs ds ∧ Tq (RD L) L H μ (mth m d ds M) NoX Q
theorem mth_append : MtR X "list.append" (rMt L .append) := by
  intro pins s σ H x xs v us Q I rx rs h
  obtain ⟨M, μ, d, ds, R, hx, hs, h⟩ := h
  replace h : Tq (RD L) L H μ (appendD d ds M) NoX Q := h
  unfold appendD at h
  split at h
  · rename_i n y
    cases hx with
    | @obj _ a ha =>
      obtain ⟨ys, e1, h⟩ := opt_bind h
      obtain ⟨c, h⟩ := ite_ok h
      obtain ⟨w, rfl, hw⟩ := one_rd hs
      obtain ⟨zs, hz, q⟩ := lstO_rd R ha e1
      have q2 : RDs L H μ (zs ++ [w]) (ys ++ [y]) := q.append (.cons hw .nil)
      obtain ⟨x', R'⟩ := set_lst R ha (lstO_at e1) q2
      exact mt_append pins s σ H _ _ v us Q I rx rs ⟨a, zs, w, rfl, rfl, hz, by rw [q.length, ← LIM_eq]; exact c, h _ _ _ x' R' .non⟩
  · exact h.elim
theorem plains_of : ∀ {ps : List PyData}, PyData.canLayAll0 ps = true → PyData.plainAll ps = true
  | [], _ => rfl
  | p :: ps, h => by
    have h' : (p.canLay0 && PyData.canLayAll0 ps) = true := h
    obtain ⟨a, b⟩ := Bool.and_eq_true_iff.mp h'
    show (p.plain && PyData.plainAll ps) = true
    rw [PyData.plain_of_canLay0 p a, plains_of b]
    rfl
theorem mth_count (hK : X.K = L.K) (hu : X.A.units + 65 < cLine) : MtR X "tuple.count" (rMt L .count) := by
  intro pins s σ H x xs v us Q I rx rs h
  obtain ⟨M, μ, d, ds, R, hx, hs, h⟩ := h
  replace h : Tq (RD L) L H μ (countD d ds M) NoX Q := h
  unfold countD at h
  split at h
  · rename_i ys y
    obtain ⟨z, e, h⟩ := opt_ok h
    obtain ⟨p, e1, e2⟩ := Option.bind_eq_some_iff.mp (show ((py M DEEP y).bind fun p => (ys.mapM (py M DEEP)).map fun ps => D.int (ps.countP fun z => PyData.eqv z p)) = some z from e)
    obtain ⟨ps, e3, rfl⟩ := Option.map_eq_some_iff.mp e2
    obtain ⟨w, rfl, hw⟩ := one_rd hs
    obtain ⟨u, rfl, ru⟩ := vals1 rs
    have hq := h.now R (.int _)
    cases hx with
    | @tup a zs _ sx q =>
      cases rx
      obtain ⟨its, rv, ht, hz⟩ := I.tuple (hK ▸ sx.seq : SqT X.K H a zs)
      obtain ⟨as, r1⟩ := Dp.readsAll I ps zs its (py_dps hK R _ q e3) rv
      obtain ⟨bs, r2⟩ := Dp.reads I p w u (py_dp hK R _ hw e1) ru
      have l1 := py_deeps DEEP e3
      have l2 := py_deep DEEP e1
      have h9 : p.depth ≤ 9 := l2.2
      have hm : min (PyData.depthAll ps) p.depth ≤ p.depth := Nat.min_le_right _ _
      exact SeqAt.count_tuple_data (vs := its.toArray) ht r1 r2 (plains_of l1.1) (PyData.plain_of_canLay0 p l2.1) (by omega) ⟨.int _, H, I.tok _, ⟨_, rfl⟩, hq⟩
  · exact h.elim
end
end Mi
end
section
set_option Elab.async false
set_option linter.all false
set_option maxRecDepth 100000
set_option maxHeartbeats 1000000
set_option exponentiation.threshold 20000
/-! MiF: what a loop walks: a list, a tuple, enumerate, zip of these. -/
namespace Mi
open PySem PySem.Spec PyProof.Rows L2

/-- true: a list, false: a tuple -/
def SqB (K : PySem.W.Frag) (H : Hp) (a : Addr) (xs : List V) : Bool → Prop
  | true => SqL K H a xs
  | false => SqT K H a xs
def ItB (h : Heap) (it a : Addr) (i : Nat) : Bool → Prop
  | true => h.IsListIter it a i
  | false => h.IsTupleIter it a i
def InB (h : Heap) (a : Addr) (its : Array Value) : Bool → Prop
  | true => h.IsList a its
  | false => h.IsTuple a its
def obB (a : Addr) : Bool → Obj
  | true => { cls := .type "list_iterator", data := .fields #[.ref a, .int 0 0] }
  | false => { cls := .type "tuple_iterator", data := .fields #[.ref a, .int 0 0] }
section
variable {X : Cx} {pins : List (Addr × Obj)} {σ : L2.St} {H : Hp} {s : Shared} {a it : Addr} {xs ys : List V} {b : Bool}
theorem seqB (I : Inv X pins σ H s) (h : SqB X.K H a xs b) : ∃ its : List Value, Vals xs its ∧ InB s.heap a its.toArray b ∧ xs.length ≤ sizeLine := by
  cases b with
  | true =>
    obtain ⟨its, r, p, z⟩ := I.list h
    exact ⟨its, r, p.isList, z⟩
  | false =>
    obtain ⟨its, r, p, z⟩ := I.tuple h
    exact ⟨its, r, (show s.heap.IsTuple a its.toArray from p), z⟩
theorem injB (I : Inv X pins σ H s) (h : SqB X.K H a xs b) (h' : SqB X.K H a ys b) : xs = ys := by
  cases b with
  | true => exact I.list_inj h h'
  | false => exact I.tuple_inj h h'
theorem drawsB {prog : Program} {w : World} {A : Around} (hh : A.handled = none) (hne : a ≠ it) (items : Array Value) : ∀ b, Draws prog w A it [it, a] items.size (fun i v => items[i]? = some v) (fun i h => ItB h it a i b ∧ InB h a items b)
  | true => Draws.list hh it a hne items
  | false => Draws.tuple hh it a hne items
theorem beginsB (items : Array Value) : ∀ b, Begins (.ref a) (obB a b) fun h => InB h a items b
  | true => begins_list a items
  | false => begins_tuple a items
theorem ItB.obj {h : Heap} {i : Nat} (x : ItB h it a i b) : ∃ o vs, h.get? it = some o ∧ o.data = .fields vs := by
  cases b with
  | true => obtain ⟨o, e, _, d⟩ := x; exact ⟨o, _, e, d⟩
  | false => obtain ⟨o, e, _, d⟩ := x; exact ⟨o, _, e, d⟩
theorem InB.obj {h : Heap} {its : Array Value} (x : InB h a its b) : ∃ o vs n, h.get? a = some o ∧ o.data = .seq vs n := by
  cases b with
  | true => obtain ⟨o, e, _, n, d⟩ := x; exact ⟨o, _, _, e, d⟩
  | false => obtain ⟨o, e, _, n, d⟩ := x; exact ⟨o, _, _, e, d⟩
theorem apartB {h : Heap} {i : Nat} {its : Array Value} (x : ItB h it a i b) (y : InB h a its b) : a ≠ it := fun z => by
  subst z
  obtain ⟨o, vs, e, d⟩ := x.obj
  obtain ⟨o', vs', n, e', d'⟩ := y.obj
  rw [e] at e'
  cases e'
  rw [d] at d'
  cases d'
theorem ItB.at {h h' : Heap} {i : Nat} (x : ItB h it a i b) (k : ∀ o, h.get? it = some o → h'.get? it = some o) : ItB h' it a i b := by
  cases b with
  | true => exact Heap.IsListIter.at x k
  | false => exact Heap.IsTupleIter.at x k
theorem itB_new {h : Heap} (e : h.get? it = some (obB a b)) : ItB h it a 0 b := by
  cases b with
  | true => exact ⟨_, e, rfl, rfl⟩
  | false => exact ⟨_, e, rfl, rfl⟩

theorem meets_enumerate_newT (l : Addr) (items : Array Value) (n : Nat) (dct : Option Addr) (sl : Array (Option Value)) :
    Meets (Builtin.«enumerate.__new__» ⟨[.type "enumerate", .ref l], []⟩) (fun _ R s => s.heap.get? l = some { cls := .type "tuple", dict := dct, data := .seq items n, slots := sl } ∧
      R (.ok (.ret (.ref (s.heap.push (obB l false)).objs.size)))
        { s with heap := (s.heap.push (obB l false)).push { cls := .type "enumerate", data := .fields #[.none, .bool false, .ref s.heap.objs.size, rawInt 0, .none, .none] } }) :=
  .of_wp fun prog w A R s h => by
    obtain ⟨hp, g, d, tk, os⟩ := s; obtain ⟨hl, h⟩ := h
    have hsub := sub_enumerate
    have hL : Heap.IsTuple (Shared.heap ⟨hp, g, d, tk, os⟩) l items := ⟨_, hl, rfl, n, rfl⟩
    wp_walk using AutoSeq1.wpAny_loadPart' hl
    refine wpAny_stack_any fun st => wpAny_pure ?_
    split
    · rename_i c _ _ _ _ _
      cases (c == Value.type "enumerate")
      · wp_walk using AutoSeq1.wpAny_loadPart' hl, wpAny_pyIter_tuple hL
        exact ⟨_, rfl, h⟩
      · wp_walk using AutoSeq1.wpAny_loadPart' hl, wpAny_pyIter_tuple hL
        exact ⟨_, rfl, h⟩
    · wp_walk using AutoSeq1.wpAny_loadPart' hl, wpAny_pyIter_tuple hL
      exact ⟨_, rfl, h⟩
theorem call_enumerate_tuple {prog : Program} {w : World} {A : Around} {E : Value → Shared → Prop} {s : Shared} {l : Addr} {items : Array Value} {Q : Value → Shared → Prop} (hL : s.heap.IsTuple l items)
    (h : ∀ h', IsEnum h' (s.heap.objs.size + 1) s.heap.objs.size 0 .none → h'.IsTupleIter s.heap.objs.size l 0 → h'.objs.size = s.heap.objs.size + 2 →
      (∀ b o, s.heap.get? b = some o → h'.get? b = some o) → Q (.ref (s.heap.objs.size + 1)) { s with heap := h' }) :
    wpAny (model prog w) A (call (.type "enumerate") [.ref l]) Q E s := by
  obtain ⟨⟨c, dct, dt, sl⟩, hl, hc, n, hd⟩ := hL
  replace hc : c = .type "tuple" := hc
  replace hd : dt = .seq items n := hd
  subst hc hd
  refine callType_new F.called_enumerate (by decide) (F.typeCall_enumerate_1 _) (F.newCall_enumerate_1 _) (fun obj => F.args_object_init_2 obj _) F.entry_enumerate_new
    (meets_enumerate_newT l items n dct sl) ⟨hl, ?_⟩
  have hz : (s.heap.push (obB l false)).objs.size = s.heap.objs.size + 1 := Heap.size_push ..
  show _ ∧ _
  rw [hz]
  have he : IsEnum ((s.heap.push (obB l false)).push { cls := .type "enumerate", data := .fields #[.none, .bool false, .ref s.heap.objs.size, rawInt 0, .none, .none] }) (s.heap.objs.size + 1) s.heap.objs.size 0 .none := by
    have := Heap.get?_push_size (s.heap.push (obB l false)) (o := { cls := .type "enumerate", data := .fields #[.none, .bool false, .ref s.heap.objs.size, rawInt 0, .none, .none] }) rfl
    rw [hz] at this; exact this
  refine ⟨⟨_, he, rfl⟩, h _ he ⟨_, Heap.get?_push_of_some _ (Heap.get?_push_size _ rfl), rfl, rfl⟩ (by rw [Heap.size_push, hz]) fun b o x => Heap.get?_push_of_some _ (Heap.get?_push_of_some _ x)⟩
/-- enumerate -/
def Ien (K : PySem.W.Frag) (a : Addr) (b : Bool) : L2.It :=
  ⟨fun i H => ∃ (xs : List V) (x : V), SqB K H a xs b ∧ xs[i]? = some x, fun i H v H' => ∃ T x, v = .ref T ∧ H T = none ∧ H' = upd H T (.tup [.int (i : Nat), x]) ∧ ∀ xs, SqB K H a xs b → xs[i]? = some x, fun i H => ∃ xs : List V, SqB K H a xs b ∧ xs.length = i⟩
theorem turn_en {P : Program} {w : World} {K : PySem.W.Frag} {elts : List Expr} {kk : Nat} {tpos : Pos} (a e it : Addr) (b : Bool) :
    Turn P w K (.Tuple elts kk tpos) (Ien K a b) [e, it] e (fun i h => (∃ old, IsEnum h e it ((i : Nat) : Int) old) ∧ ItB h it a i b ∧ e ≠ it) where
  mem := by simp
  obj := fun i h st c hb => by
    obtain ⟨⟨old, he⟩, hit, _⟩ := st
    have e' : c = e ∨ c = it := by simpa using hb
    rcases e' with z | z
    · rw [z]; exact ⟨_, he, fun v q => nomatch q⟩
    · obtain ⟨o, vs, ho, hd⟩ := hit.obj
      rw [z]; exact ⟨o, ho, fun v q => by rw [hd] at q; cases q⟩
  keep := fun i h h' st k => let ⟨⟨old, he⟩, hi, hne⟩ := st; ⟨⟨old, k e (by simp) _ he⟩, hi.at fun o q => k it (by simp) o q, hne⟩
  item := by
    intro X hP hw hK hc i pins s σ H E I hf st hg
    subst hP hw hK
    obtain ⟨⟨old, he⟩, hit, hne⟩ := st
    obtain ⟨xs, x, hq, hx⟩ := hg
    obtain ⟨its, rv, p, hz⟩ := seqB I hq
    obtain ⟨u, hu, ru⟩ := rv.get hx
    have hap := apartB hit p
    have hel : e < s.heap.objs.size := Heap.lt_size he
    have hil : it < s.heap.objs.size := by obtain ⟨_, _, q, _⟩ := hit.obj; exact Heap.lt_size q
    have hae : e ≠ a := fun z => by
      subst z
      obtain ⟨o', vs', n, e', d'⟩ := p.obj
      rw [he] at e'
      cases e'
      cases d'
    have D := drawsB (prog := X.prog) (w := X.w) (A := X.A.in1) (I.ok.hd hc) hap its.toArray b
    have hlt : i < its.toArray.size := by
      rw [List.size_toArray]
      exact (List.getElem?_eq_some_iff.mp hu).1
    refine wpAny_pyNext_enum_itemC D he ⟨hit, p⟩ hlt hne (by simp; exact ⟨hne, hae⟩) fun u' h' tk hp ho hit' hT hsz hk => ?_
    have hu' : u' = u := by
      have q : its.toArray[i]? = some u := by simpa using hu
      rw [q] at hp
      exact (Option.some.inj hp).symm
    subst hu'
    refine ⟨_, rfl, wpAny_letOwnedTupleGo_enum (s := { s with heap := h', toks := tk + 1 }) ho fun h'' he' sb => ?_⟩
    have hT2 : h''.get? s.heap.objs.size = some { cls := .type "tuple", data := .seq #[.int i tk, u'] } := (sb.2 _ (Nat.ne_of_gt hel)).trans hT
    have new : ObjOk X.prog X.w (upd H s.heap.objs.size (.tup [.int (i : Nat), x])) h'' s.heap.objs.size (.tup [.int (i : Nat), x]) :=
      ⟨by show 2 ≤ sizeLine; decide, [.int i tk, u'], .cons ⟨_, rfl⟩ (.cons ru .nil), ⟨_, hT2, rfl, _, rfl⟩⟩
    have I1 : Inv X pins σ (upd H s.heap.objs.size (.tup [.int (i : Nat), x])) { s with heap := h'', toks := tk + 1 } :=
      I.turnedNew (ch := [e, it]) (fun c ob hb q => (sb.2 c (fun z => hb (by simp [z]))).trans (hk c ob (fun z => hb (by simp [z])) (fun z => hb (by simp [z])) q)) hf (Nat.le_refl _) new
    refine ⟨.ref s.heap.objs.size, _, I1, rfl, ⟨_, x, rfl, I.hok.fresh (Nat.le_refl _), rfl, fun ys hy => by rw [injB I hy hq]; exact hx⟩, ⟨⟨u', ?_⟩, hit'.1.at fun o q => (sb.2 it (Ne.symm hne)).trans q, hne⟩, fun c hb => ?_⟩
    · have e1 : ((i + 1 : Nat) : Int) = (i : Int) + 1 := by omega
      rw [e1]; exact he'
    · have hb' : c < s.heap.objs.size := by
        have e' : c = e ∨ c = it := by simpa using hb
        rcases e' with z | z
        · rw [z]; exact hel
        · rw [z]; exact hil
      rw [upd_ne (Nat.ne_of_lt hb')]
      exact (hf c hb).1
  done := by
    intro X hP hw hK hc i pins s σ H E I hf st hg
    subst hP hw hK
    obtain ⟨⟨old, he⟩, hit, hne⟩ := st
    obtain ⟨xs, hq, hx⟩ := hg
    obtain ⟨its, rv, p, hz⟩ := seqB I hq
    obtain ⟨f0, f1, f2, f3, f4, f5⟩ := hf it (by simp)
    have hl := rv.length
    have hn : its.toArray.size = i := by rw [List.size_toArray, ← hl]; exact hx
    have D := drawsB (prog := X.prog) (w := X.w) (A := X.A.in1) (I.ok.hd hc) (apartB hit p) its.toArray b
    exact wpAny_pyNext_enum_endD D he (show ItB s.heap it a its.toArray.size b ∧ _ from by rw [hn]; exact ⟨hit, p⟩) fun h' eb => ⟨rfl, I.turned (t' := s.toks) (fun c o hb q => eb c o hb q) f0 f1 f3 f4 f5⟩
  self := fun A i s Q E st h => let ⟨⟨_, he⟩, _⟩ := st; wpAny_pyIter_enum he h
theorem it_en {elts : List Expr} {kk : Nat} {tpos : Pos} {R : L2.It → Hp → Prop} (I : Inv X pins σ H s) (hq : SqB X.K H a xs b) (q : R (Ien X.K a b) H) :
    wpAny (model X.prog X.w) X.A (call (.type "enumerate") [.ref a]) (fun v s1 => wpAny (model X.prog X.w) X.A (pyIter v) (PIE X pins σ (.Tuple elts kk tpos) R) X.xe s1) X.xe s := by
  obtain ⟨its, rv, p, hz⟩ := seqB I hq
  have fin : ∀ h', IsEnum h' (s.heap.objs.size + 1) s.heap.objs.size 0 .none → ItB h' s.heap.objs.size a 0 b → h'.objs.size = s.heap.objs.size + 2 →
      (∀ b o, s.heap.get? b = some o → h'.get? b = some o) → wpAny (model X.prog X.w) X.A (pyIter (.ref (s.heap.objs.size + 1))) (PIE X pins σ (.Tuple elts kk tpos) R) X.xe { s with heap := h' } := fun h' he hit hsz hk => by
    refine wpAny_pyIter_enum he ?_
    have I2 : Inv X pins σ H { s with heap := h' } := I.kept (t' := s.toks) hk
    refine ⟨s.heap.objs.size + 1, [s.heap.objs.size + 1, s.heap.objs.size], _, _, H, rfl, I2, turn_en a (s.heap.objs.size + 1) s.heap.objs.size b, ⟨⟨.none, he⟩, hit, Nat.succ_ne_self _⟩, fun c hb => ?_, q⟩
    have e' : c = s.heap.objs.size + 1 ∨ c = s.heap.objs.size := by simpa using hb
    have hle : s.heap.objs.size ≤ c := by
      rcases e' with z | z
      · rw [z]; exact Nat.le_add_right _ _
      · rw [z]; exact Nat.le_refl _
    exact I.fpOk hle (I.hok.fresh hle)
  cases b with
  | true => exact call_enumerate_list p fin
  | false => exact call_enumerate_tuple p fin
/-- enumerate(e) -/
theorem pi_en {e : Expr} {te : TE} {p pos tpos : Pos} {elts : List Expr} {kk : Nat} (hg : Gl X "enumerate") (hm : X.mg "enumerate" = none) (ha : PE X e te) (hs : starEach [e] X.env = [(false, eval e X.env)]) (b : Bool) :
    PI X (.Tuple elts kk tpos) (.Call (.Name "enumerate" p) [e] [] pos) (fun σ H R => te σ H fun v H1 => ∃ a xs, v = .ref a ∧ SqB X.K H1 a xs b ∧ R (Ien X.K a b) H1) := by
  refine ⟨fun pins s σ H R I h => ?_⟩
  have hA : PA X [e] (tCons te tNil) := pa_cons ha pa_nil hs
  refine Call_ (ld_blt I hg hm boot_enumerate (PyProof.Rows.callWith_type1 (thn (hA.run pos pins s σ H (fun vs H1 => match vs with | [v] => ∃ a xs, v = .ref a ∧ SqB X.K H1 a xs b ∧ R (Ien X.K a b) H1 | _ => False) I h) fun us s1 ⟨vs, H1, I1, r1, q1⟩ => ?_) hs rfl))
  match vs, r1, q1 with
  | [v], r1, q1 =>
    obtain ⟨a, xs, rfl, hq, q⟩ := q1
    obtain ⟨u, rfl, rx⟩ := vals1 r1
    cases rx
    exact it_en I1 hq q

/-- zip -/
def Izi (K : PySem.W.Frag) (a c : Addr) (b d : Bool) : L2.It :=
  ⟨fun i H => ∃ (xs ys : List V) (x y : V), SqB K H a xs b ∧ SqB K H c ys d ∧ xs[i]? = some x ∧ ys[i]? = some y,
    fun i H v H' => ∃ T x y, v = .ref T ∧ H T = none ∧ H' = upd H T (.tup [x, y]) ∧ (∀ xs, SqB K H a xs b → xs[i]? = some x) ∧ ∀ ys, SqB K H c ys d → ys[i]? = some y,
    fun i H => ∃ xs ys : List V, SqB K H a xs b ∧ SqB K H c ys d ∧ i ≤ xs.length ∧ i ≤ ys.length ∧ (i = xs.length ∨ i = ys.length)⟩
theorem turn_zi {P : Program} {w : World} {K : PySem.W.Frag} {elts : List Expr} {kk : Nat} {tpos : Pos} {a c z TI TO i1 i2 : Addr} {b d : Bool} (D : ZipSep2 z TI TO i1 i2 [i1, a] [i2, c]) :
    Turn P w K (.Tuple elts kk tpos) (Izi K a c b d) [z, TI, TO, i1, i2] z (fun i h => IsZip h z TI TO .none ∧ IsTupOf2 h TI (.ref i1) (.ref i2) ∧ (∃ x y, IsTupOf2 h TO x y) ∧ ItB h i1 a i b ∧ ItB h i2 c i d) where
  mem := by simp
  obj := fun i h st q hc => by
    obtain ⟨hz, hTI, ⟨x, y, hTO⟩, h1, h2⟩ := st
    obtain ⟨o1, _, e1, d1⟩ := h1.obj
    obtain ⟨o2, _, e2, d2⟩ := h2.obj
    have e' : q = z ∨ q = TI ∨ q = TO ∨ q = i1 ∨ q = i2 := by simpa using hc
    rcases e' with q | q | q | q | q
    · rw [q]; exact ⟨_, hz, fun v q => nomatch q⟩
    · rw [q]; exact ⟨_, hTI, fun v q => nomatch q⟩
    · rw [q]; exact ⟨_, hTO, fun v q => nomatch q⟩
    · rw [q]; exact ⟨o1, e1, fun v q => by rw [d1] at q; cases q⟩
    · rw [q]; exact ⟨o2, e2, fun v q => by rw [d2] at q; cases q⟩
  keep := fun i h h' st k => by
    obtain ⟨hz, hTI, ⟨x, y, hTO⟩, h1, h2⟩ := st
    exact ⟨k z (by simp) _ hz, k TI (by simp) _ hTI, ⟨x, y, k TO (by simp) _ hTO⟩, h1.at fun o q => k i1 (by simp) o q, h2.at fun o q => k i2 (by simp) o q⟩
  item := by
    intro X hP hw hK hc i pins s σ H E I hf st hg
    subst hP hw hK
    obtain ⟨hz, hTI, ⟨x0, y0, hTO⟩, h1, h2⟩ := st
    obtain ⟨xs, ys, x, y, hqx, hqy, hx, hy⟩ := hg
    obtain ⟨its, rv, p, _⟩ := seqB I hqx
    obtain ⟨its2, rv2, p2, _⟩ := seqB I hqy
    obtain ⟨u, hu, ru⟩ := rv.get hx
    obtain ⟨u2, hu2, ru2⟩ := rv2.get hy
    have hzl : z < s.heap.objs.size := Heap.lt_size hz
    have D1 := drawsB (prog := X.prog) (w := X.w) (A := X.A.in1) (I.ok.hd hc) (apartB h1 p) its.toArray b
    have D2 := drawsB (prog := X.prog) (w := X.w) (A := X.A.in1) (I.ok.hd hc) (apartB h2 p2) its2.toArray d
    have l1 : i < its.toArray.size := by rw [List.size_toArray]; exact (List.getElem?_eq_some_iff.mp hu).1
    have l2 : i < its2.toArray.size := by rw [List.size_toArray]; exact (List.getElem?_eq_some_iff.mp hu2).1
    refine wpAny_pyNext_zipD2_item D D1 D2 hz hTI hTO ⟨h1, p⟩ ⟨h2, p2⟩ l1 l2 fun w1 w2 h' tk e1 e2 z' TO' h1' h2' hT hsz hk => ?_
    have e1' : w1 = u := by
      have q : its.toArray[i]? = some u := by simpa using hu
      rw [q] at e1
      exact (Option.some.inj e1).symm
    have e2' : w2 = u2 := by
      have q : its2.toArray[i]? = some u2 := by simpa using hu2
      rw [q] at e2
      exact (Option.some.inj e2).symm
    subst e1' e2'
    refine ⟨_, rfl, wpAny_letOwnedTupleGo_zip (s := { s with heap := h', toks := tk }) z' fun h'' z'' sb => ?_⟩
    have hT2 : h''.get? s.heap.objs.size = some { cls := .type "tuple", data := .seq #[w1, w2] } := (sb.2 _ (Nat.ne_of_gt hzl)).trans hT
    have new : ObjOk X.prog X.w (upd H s.heap.objs.size (.tup [x, y])) h'' s.heap.objs.size (.tup [x, y]) :=
      ⟨by show 2 ≤ sizeLine; decide, [w1, w2], .cons ru (.cons ru2 .nil), ⟨_, hT2, rfl, _, rfl⟩⟩
    have I1 : Inv X pins σ (upd H s.heap.objs.size (.tup [x, y])) { s with heap := h'', toks := tk } :=
      I.turnedNew (t' := tk) (ch := [z, TI, TO, i1, i2]) (fun q o hb e => (sb.2 q (fun q' => hb (by simp [q']))).trans (hk q o (fun q' => hb (by simp [q'])) (fun q' => hb (by simp [q'])) (fun q' => hb (by simp [q'])) (fun q' => hb (by simp [q'])) e)) hf (Nat.le_refl _) new
    refine ⟨.ref s.heap.objs.size, _, I1, rfl, ⟨_, x, y, rfl, I.hok.fresh (Nat.le_refl _), rfl, fun l hl => by rw [injB I hl hqx]; exact hx, fun l hl => by rw [injB I hl hqy]; exact hy⟩, ⟨z'', ?_, ⟨w1, w2, ?_⟩, ?_, ?_⟩, fun q hcm => ?_⟩
    · exact (sb.2 _ D.TIz).trans (hk _ _ D.TIz D.TITO D.TIi1 D.TIi2 hTI)
    · exact (sb.2 _ D.TOz).trans TO'
    · exact h1'.1.at fun o q => (sb.2 _ (Ne.symm D.zi1)).trans q
    · exact h2'.1.at fun o q => (sb.2 _ (Ne.symm D.zi2)).trans q
    · have hlt : q < s.heap.objs.size := by
        have e' : q = z ∨ q = TI ∨ q = TO ∨ q = i1 ∨ q = i2 := by simpa using hcm
        rcases e' with q | q | q | q | q
        · rw [q]; exact hzl
        · rw [q]; exact Heap.lt_size hTI
        · rw [q]; exact Heap.lt_size hTO
        · rw [q]; obtain ⟨_, _, e1, _⟩ := h1.obj; exact Heap.lt_size e1
        · rw [q]; obtain ⟨_, _, e2, _⟩ := h2.obj; exact Heap.lt_size e2
      rw [upd_ne (Nat.ne_of_lt hlt)]
      exact (hf q hcm).1
  done := by
    intro X hP hw hK hc i pins s σ H E I hf st hg
    subst hP hw hK
    obtain ⟨hz, hTI, ⟨x0, y0, hTO⟩, h1, h2⟩ := st
    obtain ⟨xs, ys, hqx, hqy, k1, k2, hend⟩ := hg
    obtain ⟨its, rv, p, _⟩ := seqB I hqx
    obtain ⟨its2, rv2, p2, _⟩ := seqB I hqy
    have l1 := rv.length
    have l2 := rv2.length
    have D1 := drawsB (prog := X.prog) (w := X.w) (A := X.A.in1) (I.ok.hd hc) (apartB h1 p) its.toArray b
    have D2 := drawsB (prog := X.prog) (w := X.w) (A := X.A.in1) (I.ok.hd hc) (apartB h2 p2) its2.toArray d
    refine wpAny_pyNext_zipD2_end D D1 D2 hz hTI hTO ⟨h1, p⟩ ⟨h2, p2⟩ (by rw [List.size_toArray]; omega) (by rw [List.size_toArray]; omega) (by rw [List.size_toArray, List.size_toArray]; omega) fun h' tk hk => ⟨rfl, I.turnedL (t' := tk) (ch := [z, TI, TO, i1, i2]) (fun q o hb e =>
      hk q o (fun q' => hb (by simp [q'])) (fun q' => hb (by simp [q'])) (fun q' => hb (by simp [q'])) (fun q' => hb (by simp [q'])) e) hf⟩
  self := fun A i s Q E st h => wpAny_pyIter_zip st.1 h
theorem pi_zi {e e2 : Expr} {te tf : TE} {p pos tpos : Pos} {elts : List Expr} {kk : Nat} (hg : Gl X "zip") (hm : X.mg "zip" = none) (ha : PE X e te) (ha2 : PE X e2 tf)
    (hs : starEach [e, e2] X.env = (false, eval e X.env) :: starEach [e2] X.env) (hs2 : starEach [e2] X.env = [(false, eval e2 X.env)]) (b d : Bool) :
    PI X (.Tuple elts kk tpos) (.Call (.Name "zip" p) [e, e2] [] pos) (fun σ H R => te σ H fun v H1 => tf σ H1 fun w H2 => ∃ a c xs ys, v = .ref a ∧ w = .ref c ∧ SqB X.K H2 a xs b ∧ SqB X.K H2 c ys d ∧ R (Izi X.K a c b d) H2) := by
  refine ⟨fun pins s σ H R I h => ?_⟩
  have hA : PA X [e, e2] (tCons te (tCons tf tNil)) := pa_cons ha (pa_cons ha2 pa_nil hs2) hs
  refine Call_ (ld_blt I hg hm PyProof.Rows.boot_zip (PyProof.Rows.callWith_type1 (thn (hA.run pos pins s σ H (fun vs H1 => match vs with | [v, w] => ∃ a c xs ys, v = .ref a ∧ w = .ref c ∧ SqB X.K H1 a xs b ∧ SqB X.K H1 c ys d ∧ R (Izi X.K a c b d) H1 | _ => False) I h) fun us s1 ⟨vs, H1, I1, r1, q1⟩ => ?_) hs (by rw [hs2]; rfl)))
  match vs, r1, q1 with
  | [v, w], r1, q1 =>
    obtain ⟨a, c, xs, ys, rfl, rfl, hqx, hqy, q⟩ := q1
    obtain ⟨u1, u2, rfl, rx, ry⟩ := Vals.two r1
    cases rx
    cases ry
    obtain ⟨its, rv, p1, _⟩ := seqB I1 hqx
    obtain ⟨its2, rv2, p2, _⟩ := seqB I1 hqy
    have la : a < s1.heap.objs.size := by obtain ⟨_, _, _, e, _⟩ := p1.obj; exact Heap.lt_size e
    have lb : c < s1.heap.objs.size := by obtain ⟨_, _, _, e, _⟩ := p2.obj; exact Heap.lt_size e
    refine zip_begins2 (beginsB its.toArray b) (beginsB its2.toArray d) p1 p2 fun h' hz hTI hTO h1 h2 hsz hk => wpAny_pyIter_zip hz ?_
    have I2 : Inv X pins σ H1 { s1 with heap := h' } := I1.kept (t' := s1.toks) hk
    refine ⟨s1.heap.objs.size + 4, [s1.heap.objs.size + 4, s1.heap.objs.size + 2, s1.heap.objs.size + 3, s1.heap.objs.size, s1.heap.objs.size + 1], _, _, H1, rfl, I2, turn_zi (zip_sep2 (by simpa using la) (by simpa using lb)), ⟨hz, hTI, ⟨_, _, hTO⟩, itB_new h1, itB_new h2⟩, fun q hcm => ?_, q⟩
    have e' : q = s1.heap.objs.size + 4 ∨ q = s1.heap.objs.size + 2 ∨ q = s1.heap.objs.size + 3 ∨ q = s1.heap.objs.size ∨ q = s1.heap.objs.size + 1 := by simpa using hcm
    have hle : s1.heap.objs.size ≤ q := by
      rcases e' with z | z | z | z | z
      · rw [z]; exact Nat.le_add_right _ _
      · rw [z]; exact Nat.le_add_right _ _
      · rw [z]; exact Nat.le_add_right _ _
      · rw [z]; exact Nat.le_refl _
      · rw [z]; exact Nat.le_add_right _ _
    exact I1.fpOk hle (I1.hok.fresh hle)
end
end Mi
end
section
set_option Elab.async false
set_option linter.all false
set_option maxRecDepth 100000
set_option maxHeartbeats 1000000
set_option exponentiation.threshold 20000
/-! MiG: expressions: the judgement by data, rule by rule. -/
namespace Mi
open PySem PySem.Spec PyProof.Rows L2

/-- what an exception is -/
structure RX (L : Place) (H : Hp) (μ : List Addr) (c : Value) (dd : Option Addr) (x : Exn) : Prop where
  cl : c = L.cl x.cls
  val : ∀ d, x.val = some d → ∃ fld a fs v, L.fld x.cls = some fld ∧ dd = some a ∧ H a = some (.xd fs) ∧ fs.lookup fld = some v ∧ RD L H μ v d
def wX (L : Place) (W : WX) (σ : L2.St) (H : Hp) (μ : List Addr) : Exn → Mem → Prop := fun x M => ∀ H' μ' c dd, Ext H μ H' μ' → RM L H' μ' M → RX L H' μ' c dd x → W c dd σ H'
abbrev NoW : WX := fun _ _ _ _ => False
def Res.nex {α : Type} : Res α → Prop
  | .ex _ _ => False
  | _ => True
section
variable {α β γ δ : Type} {rel : Hp → List Addr → γ → α → Prop} {rel' : Hp → List Addr → δ → β → Prop} {L : Place} {H H1 : Hp} {μ μ1 : List Addr} {W : WX} {σ : L2.St} {M : Mem}
theorem Tq.nox {r : Res α} {Xs : Exn → Mem → Prop} {Q : γ → Hp → Prop} (h : Tq rel L H μ r Xs Q) (n : r.nex) : Tq rel L H μ r NoX Q := by
  cases r with
  | ok a M => exact h
  | ex x M => exact n.elim
  | bad => exact h
theorem wX.ext {x : Exn} (e : Ext H μ H1 μ1) (h : wX L W σ H μ x M) : wX L W σ H1 μ1 x M := fun H' μ' c dd e' R r => h H' μ' c dd (e.trans e') R r
theorem Tq.ext {r : Res α} {Q : γ → Hp → Prop} (e : Ext H μ H1 μ1) (h : Tq rel L H μ r (wX L W σ H μ) Q) : Tq rel L H1 μ1 r (wX L W σ H1 μ1) Q := by
  cases r with
  | ok a M => exact fun v H' μ' e' R r => h v H' μ' (e.trans e') R r
  | ex x M => exact wX.ext e h
  | bad => exact h
theorem Tq.mono {r : Res α} {Q Q' : γ → Hp → Prop} {Xs : Exn → Mem → Prop} (h : Tq rel L H μ r Xs Q) (k : ∀ v H, Q v H → Q' v H) : Tq rel L H μ r Xs Q' := by
  cases r with
  | ok a M => exact fun v H' μ' e' R r => k _ _ (h v H' μ' e' R r)
  | ex x M => exact h
  | bad => exact h
theorem Tq.bind {r : Res α} {f : α → Mem → Res β} {Q : δ → Hp → Prop} {P : γ → Hp → Prop} (h : Tq rel' L H μ (r.bind f) (wX L W σ H μ) Q)
    (k : ∀ v H1 μ1 M1 a, Ext H μ H1 μ1 → RM L H1 μ1 M1 → rel H1 μ1 v a → Tq rel' L H1 μ1 (f a M1) (wX L W σ H1 μ1) Q → P v H1) : Tq rel L H μ r (wX L W σ H μ) P := by
  cases r with
  | ok a M1 => exact fun v H1 μ1 e R q => k v H1 μ1 M1 a e R q (Tq.ext e h)
  | ex x M => exact h
  | bad => exact h
theorem nex_opt {o : Option α} : (ofOpt o M).nex := by
  cases o <;> exact trivial
theorem nex_alloc {o : MO} : (alloc o M).nex := trivial
theorem nex_ite {c : Prop} [Decidable c] {r : Res α} (h : r.nex) : (if c then r else .bad).nex := by
  split
  · exact h
  · trivial
theorem nex_like {f : List D → Option (List D)} {x : D} : (likeD f x M).nex := by
  unfold likeD
  split
  · exact nex_opt
  · split
    · split <;> trivial
    · trivial
  · trivial
theorem nex_binI {op : Operator} {i j : Int} : (binI op i j M).nex := by
  unfold binI
  split <;> first
    | trivial
    | exact nex_ite trivial
theorem nex_bin {op : Operator} {x y : D} : (binop op x y M).nex := by
  unfold binop
  split
  · exact nex_binI
  · exact nex_ite trivial
  · exact nex_ite trivial
  · split
    · exact nex_ite trivial
    · trivial
  · split
    · exact nex_ite trivial
    · trivial
  · exact nex_ite trivial
  · trivial
theorem nex_seq {f : List D → Res D} {xs : List D} (h : ∀ ys, (f ys).nex) : (seqD f xs M).nex := by
  unfold seqD
  split
  · cases e : items _ M with
    | none => trivial
    | some ys => exact h ys
  · trivial
theorem nex_blt {b : BF} {xs : List D} : (blt b xs M).nex := by
  unfold blt
  split
  · exact nex_seq fun _ => trivial
  · exact nex_seq fun _ => trivial
  · exact nex_opt
theorem nex_mth {m : MF} {x : D} {xs : List D} : (mth m x xs M).nex := by
  unfold mth
  split
  · unfold appendD
    split
    · cases lstO M _ with
      | none => trivial
      | some ys => exact nex_ite trivial
    · trivial
  · unfold countD
    split
    · exact nex_opt
    · trivial
  · trivial
end

/-! ### the judgement -/
section
variable (L : Place) (F : Fns) (W : WX)
def TEx (c : E) : TE := fun σ H Q => ∃ ρ M μ, RS L ρ σ H μ M ∧ Tq (RD L) L H μ (evE F c ρ M) (wX L W σ H μ) Q
def TAx (c : Es) : TA := fun σ H Q => ∃ ρ M μ, RS L ρ σ H μ M ∧ Tq (RDs L) L H μ (evEs F c ρ M) (wX L W σ H μ) Q
def RB : Hp → List Addr → Bool → Bool → Prop := fun _ _ b c => b = c
def TTx (c : E) : TT := fun σ H Q => ∃ ρ M μ, RS L ρ σ H μ M ∧ Tq RB L H μ (test (evE F c ρ M)) (wX L W σ H μ) Q
end
section
variable {X : Cx} {L : Place} {F : Fns} {W : WX}
theorem _root_.L2.PE.imp {e : Expr} {t t' : TE} (h : PE X e t) (k : ∀ σ H Q, t' σ H Q → t σ H Q) : PE X e t' := ⟨fun pins s σ H Q I hw => h.run pins s σ H Q I (k _ _ _ hw)⟩
theorem _root_.L2.PT.imp {e : Expr} {t t' : TT} (h : PT X e t) (k : ∀ σ H Q, t' σ H Q → t σ H Q) : PT X e t' := ⟨fun pins s σ H Q I hw => h.run pins s σ H Q I (k _ _ _ hw)⟩
theorem _root_.L2.PW.imp {e : Expr} {t t' : TT} (h : PW X e t) (k : ∀ σ H Q, t' σ H Q → t σ H Q) : PW X e t' := ⟨fun w pins s σ H Q I hw => h.run w pins s σ H Q I (k _ _ _ hw)⟩
theorem _root_.L2.PA.imp {e : List Expr} {t t' : TA} (h : PA X e t) (k : ∀ σ H Q, t' σ H Q → t σ H Q) : PA X e t' := ⟨fun pos pins s σ H Q I hw => h.run pos pins s σ H Q I (k _ _ _ hw)⟩
theorem RS.ext {ρ : Env} {σ : L2.St} {H H' : Hp} {μ μ' : List Addr} {M M' : Mem} (S : RS L ρ σ H μ M) (x : Ext H μ H' μ') (R : RM L H' μ' M') : RS L ρ σ H' μ' M' := ⟨R, S.e.ext S.m x⟩
section
variable {β δ : Type} {rel' : Hp → List Addr → δ → β → Prop} {c : E} {cs : Es} {ρ : Env} {σ : L2.St} {H : Hp} {μ : List Addr} {M : Mem} {Q : δ → Hp → Prop}
/-- an expression comes first -/
theorem TEx.first {f : D → Mem → Res β} {P : VK} (S : RS L ρ σ H μ M) (h : Tq rel' L H μ ((evE F c ρ M).bind f) (wX L W σ H μ) Q)
    (k : ∀ v H1 μ1 M1 d, Ext H μ H1 μ1 → RS L ρ σ H1 μ1 M1 → RD L H1 μ1 v d → Tq rel' L H1 μ1 (f d M1) (wX L W σ H1 μ1) Q → P v H1) : TEx L F W c σ H P :=
  ⟨ρ, M, μ, S, Tq.bind h fun v H1 μ1 M1 d e R r q => k v H1 μ1 M1 d e (S.ext e R) r q⟩
theorem TAx.first {f : List D → Mem → Res β} {P : List V → Hp → Prop} (S : RS L ρ σ H μ M) (h : Tq rel' L H μ ((evEs F cs ρ M).bind f) (wX L W σ H μ) Q)
    (k : ∀ v H1 μ1 M1 d, Ext H μ H1 μ1 → RS L ρ σ H1 μ1 M1 → RDs L H1 μ1 v d → Tq rel' L H1 μ1 (f d M1) (wX L W σ H1 μ1) Q → P v H1) : TAx L F W cs σ H P :=
  ⟨ρ, M, μ, S, Tq.bind h fun v H1 μ1 M1 d e R r q => k v H1 μ1 M1 d e (S.ext e R) r q⟩
theorem TTx.first {f : Bool → Mem → Res β} {P : Bool → Hp → Prop} (S : RS L ρ σ H μ M) (h : Tq rel' L H μ ((test (evE F c ρ M)).bind f) (wX L W σ H μ) Q)
    (k : ∀ b H1 μ1 M1, Ext H μ H1 μ1 → RS L ρ σ H1 μ1 M1 → Tq rel' L H1 μ1 (f b M1) (wX L W σ H1 μ1) Q → P b H1) : TTx L F W c σ H P :=
  ⟨ρ, M, μ, S, Tq.bind h fun v H1 μ1 M1 d e R r q => by
    have r : v = d := r
    subst r
    exact k v H1 μ1 M1 e (S.ext e R) q⟩
end
/-- a test of a value that is a bool -/
theorem test_bind {r : Res D} : test r = r.bind fun d M => match d with
  | .bl b => .ok b M
  | _ => .bad := rfl
theorem bind_bind {α β γ : Type} (r : Res α) (f : α → Mem → Res β) (g : β → Mem → Res γ) : (r.bind f).bind g = r.bind fun a M => (f a M).bind g := by
  cases r <;> rfl
theorem test_of_bind {α : Type} (r : Res α) (f : α → Mem → Res D) : test (r.bind f) = r.bind fun a M => test (f a M) := bind_bind r f _

/-! ### names, constants -/
theorem te_var {i : Nat} {x : Str} {pos : Pos} (hN : X.N[i]? = some x) (hv : Vis X.env.scope x) (hd : (x == ("__debug__" : Str)) = false) (hcd : (x == ("__classdict__" : Str)) = false) : PE X (.Name x pos) (TEx L F W (.var i)) :=
  (pe_var hN hv hd hcd).imp fun σ H Q ⟨ρ, M, μ, S, h⟩ => by
    have h : Tq (RD L) L H μ (match ρ[i]? with
      | some (some d) => .ok d M
      | _ => .bad) (wX L W σ H μ) Q := h
    split at h
    · rename_i d e
      obtain ⟨v, e1, r⟩ := S.e.at_ i d e
      exact ⟨v, e1, h.now S.m r⟩
    · exact h.elim
theorem te_con {e : Expr} {v : V} {d : D} (h : PE X e (tC v)) (r : ∀ H μ, RD L H μ v d) : PE X e (TEx L F W (.con d)) :=
  h.imp fun σ H Q ⟨ρ, M, μ, S, h⟩ => Tq.now h S.m (r H μ)

/-! ### operators -/
variable {a b e3 : Expr} {ca cb cc : E} {pos : Pos}
theorem te_bin {op : Operator} (hK : X.K = L.K) (ha : PE X a (TEx L F W ca)) (hb : PE X b (TEx L F W cb)) : PE X (.BinOp a op b pos) (TEx L F W (.bin op ca cb)) :=
  (pe_op (op_bin hK op) ha hb).imp fun σ H Q ⟨ρ, M, μ, S, h⟩ =>
    TEx.first S h fun x H1 μ1 M1 dx e1 S1 rx h1 => TEx.first S1 h1 fun y H2 μ2 M2 dy e2 S2 ry h2 =>
      ⟨M2, μ2, dx, dy, S2.m, rx.ext S1.m e2, ry, h2.nox nex_bin⟩
theorem intR_ok {α : Type} {β : Type} {rel : Hp → List Addr → β → α → Prop} {H : Hp} {μ : List Addr} {d : D} {v : V} {f : Int → Res α} {Xs : Exn → Mem → Prop} {Q : β → Hp → Prop} (r : RD L H μ v d) (h : Tq rel L H μ (intR d f) Xs Q) : ∃ i, v = .int i ∧ Tq rel L H μ (f i) Xs Q := by
  unfold intR at h
  split at h
  · cases r
    exact ⟨_, rfl, h⟩
  · exact h.elim
theorem te_neg (ha : PE X a (TEx L F W ca)) : PE X (.UnaryOp .USub a pos) (TEx L F W (.neg ca)) :=
  (pe_un un_neg ha).imp fun σ H Q ⟨ρ, M, μ, S, h⟩ =>
    TEx.first S h fun x H1 μ1 M1 dx e1 S1 rx h1 => by
      obtain ⟨i, rfl, h2⟩ := intR_ok rx h1
      exact ⟨i, rfl, h2.now S1.m (.int _)⟩
theorem truth_tru (hK : X.K = L.K) {H : Hp} {μ : List Addr} {M : Mem} (R : RM L H μ M) {v : V} {d : D} {k : Bool} (r : RD L H μ v d) (e : truth d M = some k) : TruV X.K v H k := by
  have go : ∀ (xs : List V) (ds : List D), RDs L H μ xs ds → some (!ds.isEmpty) = some k → k = !xs.isEmpty := fun xs ds q e => by
    cases e
    cases q <;> rfl
  cases r with
  | non => cases e; exact rfl
  | bl b => cases e; exact rfl
  | int i => cases e; exact rfl
  | @tup a xs ds s q => exact .inr (.inl ⟨xs, hK ▸ s.seq, go xs ds q e⟩)
  | @rol a xs ds s q => exact .inl ⟨xs, hK ▸ s.seq, go xs ds q e⟩
  | @obj n a ha =>
    obtain ⟨ys, e1, e2⟩ := Option.map_eq_some_iff.mp (show (lstO M n).map (fun xs => !xs.isEmpty) = some k from e)
    obtain ⟨vs, hv, q⟩ := lstO_rd R ha e1
    exact .inl ⟨vs, SqL.of hv, go vs ys q (congrArg some e2)⟩
  | _ => cases e
/-- a value's truth is asked -/
theorem tt_tst (hK : X.K = L.K) (ha : PE X a (TEx L F W ca)) (he : ∀ whole, isTrue a X.env whole = (do let v ← whole; standAt a.pos; holding [v] (truthy v))) : PT X a (TTx L F W (.tst ca)) :=
  (pt_truth ha he).imp fun σ H Q ⟨ρ, M, μ, S, h⟩ => by
    have h : Tq RB L H μ (test ((evE F ca ρ M).bind fun x M => ofOpt ((truth x M).map .bl) M)) (wX L W σ H μ) Q := h
    rw [test_of_bind] at h
    refine TEx.first S h fun x H1 μ1 M1 dx e1 S1 rx h1 => ?_
    cases e : truth dx M1 with
    | none => rw [e] at h1; exact h1.elim
    | some k =>
      rw [e] at h1
      exact ⟨k, truth_tru hK S1.m rx e, h1 k H1 μ1 Ext.refl S1.m rfl⟩
theorem te_not (hK : X.K = L.K) (ha : PE X a (TEx L F W ca)) : PE X (.UnaryOp .Not a pos) (TEx L F W (.not (.tst ca))) := by
  refine ⟨fun pins s σ H Q I ⟨ρ, M, μ, S, h⟩ => ?_⟩
  have h : Tq (RD L) L H μ ((test ((evE F ca ρ M).bind fun x M => ofOpt ((truth x M).map .bl) M)).bind fun b M => .ok (.bl (!b)) M) (wX L W σ H μ) Q := h
  rw [test_of_bind, bind_bind] at h
  refine UnaryOp_ (thn (ha.run pins s σ H (fun v H1 => ∃ k, TruV X.K v H1 k ∧ Q (.bl (!k)) H1) I ?_) fun v s1 ⟨x, H1, I1, r1, k, hk, q⟩ => ?_)
  · refine TEx.first S h fun x H1 μ1 M1 dx e1 S1 rx h1 => ?_
    cases e : truth dx M1 with
    | none => rw [e] at h1; exact h1.elim
    | some k =>
      rw [e] at h1
      exact ⟨k, truth_tru hK S1.m rx e, Tq.now h1 S1.m (.bl _)⟩
  · exact not_of (thn (tru_ok pins s1 σ H1 x v (fun k' H' => Q (.bl (!k')) H') I1 r1 ⟨k, hk, q⟩) fun b s2 ⟨H2, I2, q2⟩ => ⟨.bl (!b), H2, I2, rfl, q2⟩)
theorem tt_not (ha : PT X a (TTx L F W ca)) : PT X (.UnaryOp .Not a pos) (TTx L F W (.not ca)) :=
  (pt_not ha).imp fun σ H Q ⟨ρ, M, μ, S, h⟩ => by
    have h : Tq RB L H μ (test ((test (evE F ca ρ M)).bind fun b M => .ok (.bl (!b)) M)) (wX L W σ H μ) Q := h
    rw [test_of_bind] at h
    exact TTx.first S h fun b H1 μ1 M1 e1 S1 h1 => h1 (!b) H1 μ1 Ext.refl S1.m rfl
theorem cmp_bl {op : CmpOp} {dx dy : D} {M : Mem} : ∀ {d : D} {M'}, cmpop op dx dy M = .ok d M' → ∃ b, d = .bl b := fun {d M'} h => by
  unfold cmpop at h
  cases e : cmpO op dx dy M with
  | none => rw [e] at h; cases h
  | some b => rw [e] at h; cases h; exact ⟨b, rfl⟩
theorem te_cmp {op : CmpOp} (hK : X.K = L.K) (hu : X.A.units + 65 < cLine) (ha : PE X a (TEx L F W ca)) (hb : PE X b (TEx L F W cb)) (hm : behindInMarks op b = false) : PE X (.Compare a [op] [b] pos) (TEx L F W (.cmp op ca cb)) :=
  (pe_cmpR (op_cmp hK hu op) ha hb hm).imp fun σ H Q ⟨ρ, M, μ, S, h⟩ =>
    TEx.first S h fun x H1 μ1 M1 dx e1 S1 rx h1 => TEx.first S1 h1 fun y H2 μ2 M2 dy e2 S2 ry h2 =>
      ⟨M2, μ2, dx, dy, S2.m, rx.ext S1.m e2, ry, h2.nox nex_opt⟩
theorem test_tq {H : Hp} {μ : List Addr} {r : Res D} {Xs : Exn → Mem → Prop} {Q : Bool → Hp → Prop} (n : r.nex) (h : Tq RB L H μ (test r) Xs Q) : Tq (RD L) L H μ r NoX fun v H' => ∃ k, v = .bl k ∧ Q k H' := by
  cases r with
  | ex => exact n.elim
  | bad => exact h
  | ok d M =>
    intro v H' μ' e R rv
    cases d with
    | bl b =>
      cases rv
      exact ⟨b, rfl, h b H' μ' e R rfl⟩
    | _ => exact h.elim
theorem tt_cmp {op : CmpOp} (hK : X.K = L.K) (hu : X.A.units + 65 < cLine) (ha : PE X a (TEx L F W ca)) (hb : PE X b (TEx L F W cb)) (hm : behindInMarks op b = false) : PT X (.Compare a [op] [b] pos) (TTx L F W (.cmp op ca cb)) :=
  (pt_cmpR (op_cmp hK hu op) ha hb hm).imp fun σ H Q ⟨ρ, M, μ, S, h⟩ => by
    have h : Tq RB L H μ (test ((evE F ca ρ M).bind fun x M => (evE F cb ρ M).bind fun y M => cmpop op x y M)) (wX L W σ H μ) Q := h
    rw [test_of_bind] at h
    exact TEx.first S h fun x H1 μ1 M1 dx e1 S1 rx h1 => by
      rw [test_of_bind] at h1
      exact TEx.first S1 h1 fun y H2 μ2 M2 dy e2 S2 ry h2 => ⟨M2, μ2, dx, dy, S2.m, rx.ext S1.m e2, ry, test_tq nex_opt h2⟩
end
end Mi
end
section
set_option Elab.async false
set_option linter.all false
set_option maxRecDepth 100000
set_option maxHeartbeats 1000000
set_option exponentiation.threshold 20000
/-! MiH: expressions: chains, and, or, if, displays, subscripts, slices, built-in functions, methods. -/
namespace Mi
open PySem PySem.Spec PyProof.Rows L2
section
variable {X : Cx} {L : Place} {F : Fns} {W : WX} {a b e3 : Expr} {ca cb cc : E} {pos : Pos} {es : List Expr} {cs : Es}

theorem chn_mid {γ : Type} {f : D → Mem → Res γ} {δ : Type} {rl : Hp → List Addr → δ → γ → Prop} {σ : L2.St} {H : Hp} {μ : List Addr} {M : Mem} {op : CmpOp} {dx dy : D} {Q : δ → Hp → Prop} {P : V → Hp → Prop} {ρ : Env} (S : RS L ρ σ H μ M)
    (h : Tq rl L H μ ((cmpop op dx dy M).bind f) (wX L W σ H μ) Q)
    (k : ∀ v H1 μ1 M1 d, Ext H μ H1 μ1 → RS L ρ σ H1 μ1 M1 → RD L H1 μ1 v d → Tq rl L H1 μ1 (f d M1) (wX L W σ H1 μ1) Q → P v H1) : Tq (RD L) L H μ (cmpop op dx dy M) NoX P :=
  (Tq.bind (rel := RD L) h fun v H1 μ1 M1 d e R r q => k v H1 μ1 M1 d e (S.ext e R) r q).nox nex_opt
theorem te_chn {op op' : CmpOp} (hK : X.K = L.K) (hu : X.A.units + 65 < cLine) (ha : PE X a (TEx L F W ca)) (hb : PE X b (TEx L F W cb)) (hc : PE X e3 (TEx L F W cc)) (hm : lastMarks [op, op'] [b, e3] = false) :
    PE X (.Compare a [op, op'] [b, e3] pos) (TEx L F W (.chn op op' ca cb cc)) :=
  (pe_chain (op_cmp hK hu op) (op_cmp hK hu op') ha hb hc hm).imp fun σ H Q ⟨ρ, M, μ, S, h⟩ =>
    TEx.first S h fun x H1 μ1 M1 dx e1 S1 rx h1 => TEx.first S1 h1 fun y H2 μ2 M2 dy e2 S2 ry h2 =>
      ⟨M2, μ2, dx, dy, S2.m, rx.ext S1.m e2, ry, chn_mid S2 h2 fun z H3 μ3 M3 dz e3 S3 rz h3 => by
        cases dz with
        | bl k =>
          cases rz
          refine ⟨k, rfl, ?_⟩
          cases k with
          | true => exact TEx.first S3 h3 fun w H4 μ4 M4 dw e4 S4 rw' h4 => ⟨M4, μ4, dy, dw, S4.m, (ry.ext S2.m e3).ext S3.m e4, rw', h4.nox nex_opt⟩
          | false => exact Tq.now h3 S3.m (.bl _)
        | _ => exact h3.elim⟩
theorem tt_chn {op op' : CmpOp} (hK : X.K = L.K) (hu : X.A.units + 65 < cLine) (ha : PE X a (TEx L F W ca)) (hb : PE X b (TEx L F W cb)) (hc : PE X e3 (TEx L F W cc)) (hm : lastMarks [op, op'] [b, e3] = false) :
    PT X (.Compare a [op, op'] [b, e3] pos) (TTx L F W (.chn op op' ca cb cc)) :=
  (pt_chain (op_cmp hK hu op) (op_cmp hK hu op') ha hb hc hm).imp fun σ H Q ⟨ρ, M, μ, S, h⟩ => by
    replace h : Tq RB L H μ (test ((evE F ca ρ M).bind fun x M => (evE F cb ρ M).bind fun y M => (cmpop op x y M).bind fun z M => match z with
    | .bl true => (evE F cc ρ M).bind fun w M => cmpop op' y w M
    | .bl false => .ok (.bl false) M
    | _ => .bad)) (wX L W σ H μ) Q := h
    rw [test_of_bind] at h
    exact TEx.first S h fun x H1 μ1 M1 dx e1 S1 rx h1 => by
      rw [test_of_bind] at h1
      exact TEx.first S1 h1 fun y H2 μ2 M2 dy e2 S2 ry h2 => by
        rw [test_of_bind] at h2
        exact ⟨M2, μ2, dx, dy, S2.m, rx.ext S1.m e2, ry, chn_mid S2 h2 fun z H3 μ3 M3 dz e3 S3 rz h3 => by
          cases dz with
          | bl k =>
            cases rz
            refine ⟨k, rfl, ?_⟩
            cases k with
            | true =>
              replace h3 : Tq RB L H3 μ3 (test ((evE F cc ρ M3).bind fun w M => cmpop op' dy w M)) (wX L W σ H3 μ3) Q := h3
              rw [test_of_bind] at h3
              exact TEx.first S3 h3 fun w H4 μ4 M4 dw e4 S4 rw' h4 => ⟨M4, μ4, dy, dw, S4.m, (ry.ext S2.m e3).ext S3.m e4, rw', test_tq nex_opt h4⟩
            | false => exact ⟨false, rfl, h3 false H3 μ3 Ext.refl S3.m rfl⟩
          | _ => exact h3.elim⟩

/-! ### and, or, if -/
variable {rest : List Expr}
theorem te_and (ha : PE X a (TEx L F W ca)) (hb : PE X (.BoolOp .And (b :: rest) pos) (TEx L F W cb)) : PE X (.BoolOp .And (a :: b :: rest) pos) (TEx L F W (.and ca cb)) :=
  (pe_and ha hb).imp fun σ H Q ⟨ρ, M, μ, S, h⟩ => TEx.first S h fun x H1 μ1 M1 dx e1 S1 rx h1 => by
    cases dx with
    | bl k =>
      cases rx
      refine ⟨k, rfl, ?_⟩
      cases k with
      | true => exact ⟨ρ, M1, μ1, S1, h1⟩
      | false => exact Tq.now h1 S1.m (.bl _)
    | _ => exact h1.elim
theorem te_or (ha : PE X a (TEx L F W ca)) (hb : PE X (.BoolOp .Or (b :: rest) pos) (TEx L F W cb)) : PE X (.BoolOp .Or (a :: b :: rest) pos) (TEx L F W (.or ca cb)) :=
  (pe_or ha hb).imp fun σ H Q ⟨ρ, M, μ, S, h⟩ => TEx.first S h fun x H1 μ1 M1 dx e1 S1 rx h1 => by
    cases dx with
    | bl k =>
      cases rx
      refine ⟨k, rfl, ?_⟩
      cases k with
      | false => exact ⟨ρ, M1, μ1, S1, h1⟩
      | true => exact Tq.now h1 S1.m (.bl _)
    | _ => exact h1.elim
theorem test_and {ρ : Env} {M : Mem} : test (evE F (.and ca cb) ρ M) = (test (evE F ca ρ M)).bind fun c M => if c = true then test (evE F cb ρ M) else .ok false M := by
  show test ((evE F ca ρ M).bind _) = _
  cases evE F ca ρ M with
  | ok d M1 =>
    cases d with
    | bl k => cases k <;> rfl
    | _ => rfl
  | ex x M1 => rfl
  | bad => rfl
theorem test_or {ρ : Env} {M : Mem} : test (evE F (.or ca cb) ρ M) = (test (evE F ca ρ M)).bind fun c M => if c = true then .ok true M else test (evE F cb ρ M) := by
  show test ((evE F ca ρ M).bind _) = _
  cases evE F ca ρ M with
  | ok d M1 =>
    cases d with
    | bl k => cases k <;> rfl
    | _ => rfl
  | ex x M1 => rfl
  | bad => rfl
theorem tw_and (ha : PT X a (TTx L F W ca)) (hb : PW X (.BoolOp .And (b :: rest) pos) (TTx L F W cb)) : PW X (.BoolOp .And (a :: b :: rest) pos) (TTx L F W (.and ca cb)) :=
  (pw_and ha hb).imp fun σ H Q ⟨ρ, M, μ, S, h⟩ => by
    rw [test_and] at h
    exact TTx.first S h fun c H1 μ1 M1 e1 S1 h1 => by
      cases c with
      | true => exact ⟨ρ, M1, μ1, S1, h1⟩
      | false => exact h1 false H1 μ1 Ext.refl S1.m rfl
theorem tw_or (ha : PT X a (TTx L F W ca)) (hb : PW X (.BoolOp .Or (b :: rest) pos) (TTx L F W cb)) : PW X (.BoolOp .Or (a :: b :: rest) pos) (TTx L F W (.or ca cb)) :=
  (pw_or ha hb).imp fun σ H Q ⟨ρ, M, μ, S, h⟩ => by
    rw [test_or] at h
    exact TTx.first S h fun c H1 μ1 M1 e1 S1 h1 => by
      cases c with
      | false => exact ⟨ρ, M1, μ1, S1, h1⟩
      | true => exact h1 true H1 μ1 Ext.refl S1.m rfl
theorem te_ite (hc : PT X e3 (TTx L F W cc)) (ha : PE X a (TEx L F W ca)) (hb : PE X b (TEx L F W cb)) : PE X (.IfExp e3 a b pos) (TEx L F W (.ite cc ca cb)) :=
  (pe_ifExp hc ha hb).imp fun σ H Q ⟨ρ, M, μ, S, h⟩ => TTx.first S h fun c H1 μ1 M1 e1 S1 h1 => by
    cases c with
    | true => exact ⟨ρ, M1, μ1, S1, h1⟩
    | false => exact ⟨ρ, M1, μ1, S1, h1⟩
theorem tt_ite (hc : PT X e3 (TTx L F W cc)) (ha : PT X a (TTx L F W ca)) (hb : PT X b (TTx L F W cb)) : PT X (.IfExp e3 a b pos) (TTx L F W (.ite cc ca cb)) := by
  refine ⟨fun pins s σ H Q I ⟨ρ, M, μ, S, h⟩ => ?_⟩
  replace h : Tq RB L H μ (test ((test (evE F cc ρ M)).bind fun t M => if t = true then evE F ca ρ M else evE F cb ρ M)) (wX L W σ H μ) Q := h
  rw [test_of_bind] at h
  rw [PySem.isTrue]
  refine wpAny_bind (thn (hc.run pins s σ H (fun t H1 => if t = true then TTx L F W ca σ H1 Q else TTx L F W cb σ H1 Q) I (TTx.first S h fun c H1 μ1 M1 e1 S1 h1 => ?_)) fun t s1 ⟨H1, I1, q⟩ => ?_)
  · cases c with
    | true => exact ⟨ρ, M1, μ1, S1, h1⟩
    | false => exact ⟨ρ, M1, μ1, S1, h1⟩
  · cases t with
    | true => exact ha.run pins s1 σ H1 Q I1 q
    | false => exact hb.run pins s1 σ H1 Q I1 q

/-! ### argument lists, displays -/
theorem ta_nil : PA X [] (TAx L F W .nil) := pa_nil.imp fun σ H Q ⟨ρ, M, μ, S, h⟩ => h [] H μ Ext.refl S.m .nil
theorem ta_cons (ha : PE X a (TEx L F W ca)) (hr : PA X es (TAx L F W cs)) (hs : starEach (a :: es) X.env = (false, eval a X.env) :: starEach es X.env) : PA X (a :: es) (TAx L F W (.cons ca cs)) :=
  (pa_cons ha hr hs).imp fun σ H Q ⟨ρ, M, μ, S, h⟩ => TEx.first S h fun x H1 μ1 M1 dx e1 S1 rx h1 => TAx.first S1 h1 fun xs H2 μ2 M2 ds e2 S2 rs h2 =>
    h2 (x :: xs) H2 μ2 Ext.refl S2.m (.cons (rx.ext S1.m e2) rs)
theorem te_tup {n : Nat} (h : PA X es (TAx L F W cs)) : PE X (.Tuple es n pos) (TEx L F W (.tup cs)) :=
  (pe_tupF h).imp fun σ H Q ⟨ρ, M, μ, S, h⟩ => TAx.first S h fun xs H1 μ1 M1 ds e1 S1 rs h1 => by
    obtain ⟨c, h2⟩ := ite_ok h1
    exact ⟨by rw [rs.length, ← LIM_eq]; exact c, h2.tup S1.m rs⟩
theorem te_lst (h : PA X es (TAx L F W cs)) : PE X (.List es pos) (TEx L F W (.lst cs)) :=
  (pe_lst h).imp fun σ H Q ⟨ρ, M, μ, S, h⟩ => TAx.first S h fun xs H1 μ1 M1 ds e1 S1 rs h1 => by
    obtain ⟨c, h2⟩ := ite_ok h1
    exact ⟨by rw [rs.length, ← LIM_eq]; exact c, h2.lst S1.m rs⟩

/-! ### subscripts, slices -/
theorem te_idx (hK : X.K = L.K) (ha : PE X a (TEx L F W ca)) (hb : PE X b (TEx L F W cb)) (hs : PlainIx b) : PE X (.Subscript a b pos) (TEx L F W (.idx ca cb)) :=
  (pe_ix (ix_all hK) ha hb hs).imp fun σ H Q ⟨ρ, M, μ, S, h⟩ => TEx.first S h fun x H1 μ1 M1 dx e1 S1 rx h1 => TEx.first S1 h1 fun y H2 μ2 M2 dy e2 S2 ry h2 =>
    ⟨M2, μ2, dx, dy, S2.m, rx.ext S1.m e2, ry, h2.nox nex_opt⟩
variable {p2 : Pos} {lo hi : Expr} {cl ch : E}
theorem te_slcA (hK : X.K = L.K) (ha : PE X a (TEx L F W ca)) : PE X (.Subscript a (.Slice none none none p2) pos) (TEx L F W (.slcA ca)) :=
  (pe_slice (sl_all hK) ha po_none po_none).imp fun σ H Q ⟨ρ, M, μ, S, h⟩ => TEx.first S h fun x H1 μ1 M1 dx e1 S1 rx h1 => ⟨M1, μ1, dx, S1.m, rx, h1.nox nex_like⟩
theorem te_slcF (hK : X.K = L.K) (ha : PE X a (TEx L F W ca)) (hl : PE X lo (TEx L F W cl)) : PE X (.Subscript a (.Slice (some lo) none none p2) pos) (TEx L F W (.slcF ca cl)) :=
  (pe_slice (sl_all hK) ha (po_some hl) po_none).imp fun σ H Q ⟨ρ, M, μ, S, h⟩ => TEx.first S h fun x H1 μ1 M1 dx e1 S1 rx h1 => TEx.first S1 h1 fun l H2 μ2 M2 dl e2 S2 rl h2 => by
    obtain ⟨i, rfl, h3⟩ := intR_ok rl h2
    exact ⟨i, rfl, M2, μ2, dx, S2.m, rx.ext S1.m e2, h3.nox nex_like⟩
theorem te_slcT (hK : X.K = L.K) (ha : PE X a (TEx L F W ca)) (hl : PE X hi (TEx L F W ch)) : PE X (.Subscript a (.Slice none (some hi) none p2) pos) (TEx L F W (.slcT ca ch)) :=
  (pe_slice (sl_all hK) ha po_none (po_some hl)).imp fun σ H Q ⟨ρ, M, μ, S, h⟩ => TEx.first S h fun x H1 μ1 M1 dx e1 S1 rx h1 => TEx.first S1 h1 fun l H2 μ2 M2 dl e2 S2 rl h2 => by
    obtain ⟨i, rfl, h3⟩ := intR_ok rl h2
    exact ⟨i, rfl, M2, μ2, dx, S2.m, rx.ext S1.m e2, h3.nox nex_like⟩
theorem te_slcB (hK : X.K = L.K) (ha : PE X a (TEx L F W ca)) (hl : PE X lo (TEx L F W cl)) (hh : PE X hi (TEx L F W ch)) : PE X (.Subscript a (.Slice (some lo) (some hi) none p2) pos) (TEx L F W (.slcB ca cl ch)) :=
  (pe_slice (sl_all hK) ha (po_some hl) (po_some hh)).imp fun σ H Q ⟨ρ, M, μ, S, h⟩ => TEx.first S h fun x H1 μ1 M1 dx e1 S1 rx h1 => TEx.first S1 h1 fun l H2 μ2 M2 dl e2 S2 rl h2 => by
    obtain ⟨i, rfl, h3⟩ := intR_ok rl h2
    refine ⟨i, rfl, TEx.first S2 h3 fun u H3 μ3 M3 du e3 S3 ru h4 => ?_⟩
    obtain ⟨j, rfl, h5⟩ := intR_ok ru h4
    exact ⟨j, rfl, M3, μ3, dx, S3.m, (rx.ext S1.m e2).ext S2.m e3, h5.nox nex_like⟩
theorem te_back {n : Nat} {p1 p3 : Pos} (hK : X.K = L.K) (ha : PE X a (TEx L F W ca)) : PE X (.Subscript a (.Slice none none (some (.UnaryOp .USub (.Constant (.int 1) n p1) p2)) p3) pos) (TEx L F W (.slc3 ca 2)) := by
  refine ⟨fun pins s σ H Q I ⟨ρ, M, μ, S, h⟩ => ?_⟩
  refine Subscript_ (thn (ha.run pins s σ H (fun x H1 => ∃ M1 μ1 d, RM L H1 μ1 M1 ∧ RD L H1 μ1 x d ∧ Tq (RD L) L H1 μ1 (slc3D 2 d M1) NoX Q) I (TEx.first S h fun x H1 μ1 M1 dx e1 S1 rx h1 => ⟨M1, μ1, dx, S1.m, rx, h1.nox nex_like⟩)) fun v s1 ⟨x, H1, I1, r1, M1, μ1, d, R1, rd, q⟩ => ?_)
  exact sl3_back hK I1 r1 R1 rd q

/-! ### built-in functions -/
variable {x : Str} {p : Pos} {id T : String} {bf : BF} {e : Expr}
theorem te_blt (hc : CallR X (.builtin id) (rBl L bf)) (hg : Gl X x) (hm : X.mg x = none) (hv : bootBuiltins x = some (.builtin id)) (ha : PA X (e :: es) (TAx L F W cs)) (hn : x ≠ "__name__") (hdb : (x == ("__debug__" : Str)) = false)
    (he : starEach (e :: es) X.env = (false, eval e X.env) :: starEach es X.env) (hpl : (backTo pos (starEach es X.env)).any (·.1) = false) : PE X (.Call (.Name x p) (e :: es) [] pos) (TEx L F W (.blt bf cs)) :=
  (pe_callB hc hg hm hv ha hn hdb he hpl).imp fun σ H Q ⟨ρ, M, μ, S, h⟩ => TAx.first S h fun xs H1 μ1 M1 ds e1 S1 rs h1 => ⟨M1, μ1, ds, S1.m, rs, h1.nox nex_blt⟩
theorem te_bltT (hc : CallR X (.type T) (rBl L bf)) (hg : Gl X x) (hm : X.mg x = none) (hv : bootBuiltins x = some (.type T)) (ha : PA X (e :: es) (TAx L F W cs)) (hn : x ≠ "__name__") (hdb : (x == ("__debug__" : Str)) = false)
    (he : starEach (e :: es) X.env = (false, eval e X.env) :: starEach es X.env) (hpl : (backTo pos (starEach es X.env)).any (·.1) = false) : PE X (.Call (.Name x p) (e :: es) [] pos) (TEx L F W (.blt bf cs)) :=
  (pe_callTy hc hg hm hv ha hn hdb he hpl).imp fun σ H Q ⟨ρ, M, μ, S, h⟩ => TAx.first S h fun xs H1 μ1 M1 ds e1 S1 rs h1 => ⟨M1, μ1, ds, S1.m, rs, h1.nox nex_blt⟩
theorem te_isa {y : Str} {py : Pos} (hK : X.K = L.K) (hb : isaT bf ≠ "") (hg : Gl X "isinstance") (hm : X.mg "isinstance" = none) (ha : PE X e (TEx L F W ca)) (hy : PE X (.Name y py) (tC (.ty (isaT bf))))
    (he : starEach [e, .Name y py] X.env = (false, eval e X.env) :: starEach [.Name y py] X.env) (he2 : starEach [.Name y py] X.env = [(false, eval (.Name y py) X.env)]) : PE X (.Call (.Name "isinstance" p) [e, .Name y py] [] pos) (TEx L F W (.blt bf (.cons ca .nil))) :=
  (pe_callB (blt_isa hK bf hb) hg hm boot_isinstance (pa_cons ha (pa_cons hy pa_nil he2) he) (by decide) (by decide) he (by rw [he2]; rfl)).imp fun σ H Q ⟨ρ, M, μ, S, h⟩ => by
    replace h : Tq (RD L) L H μ (((evE F ca ρ M).bind fun x M => .ok [x] M).bind fun xs M => blt bf xs M) (wX L W σ H μ) Q := h
    rw [bind_bind] at h
    exact TEx.first S h fun x H1 μ1 M1 dx e1 S1 rx h1 => ⟨M1, μ1, x, dx, S1.m, rfl, rx, h1.nox nex_blt⟩

/-! ### methods -/
def mthT : MF → String
  | .append => "list"
  | .count => "tuple"
  | _ => ""
def mthN : MF → Str
  | .append => "append"
  | .count => "count"
  | _ => ""
def mthI : MF → String
  | .append => "list.append"
  | .count => "tuple.count"
  | _ => ""
theorem mth_ty {m : MF} {pins : List (Addr × Obj)} {σ : L2.St} {H : Hp} {μ : List Addr} {M : Mem} {s : Shared} {x : V} {d : D} {v : Value} (hK : X.K = L.K) (I : Inv X pins σ H s) (R : RM L H μ M) (rx : RelV x v) (rd : RD L H μ x d) (h : mthOk m d M = true) :
    s.TypeIs v (mthT m) ∧ ∀ a, v = .ref a → ∃ ob, s.heap.get? a = some ob ∧ ob.dict = none := by
  cases m with
  | append =>
    cases d with
    | obj n =>
      cases rd with
      | @obj _ a ha =>
        cases rx
        obtain ⟨ds, e⟩ := Option.isSome_iff_exists.mp (show (lstO M n).isSome = true from h)
        obtain ⟨xs, hx, _⟩ := lstO_rd R ha e
        obtain ⟨_, its, k, _, e2⟩ : xs.length ≤ sizeLine ∧ ∃ (its : List Value) (n : Nat), Vals xs its ∧ s.heap.get? a = some { cls := .type "list", data := .seq its.toArray n } := I.hok a _ hx
        exact ⟨⟨_, e2, rfl⟩, fun b eb => by cases eb; exact ⟨_, e2, rfl⟩⟩
    | _ => cases h
  | count =>
    cases d with
    | tup ds =>
      cases rd with
      | @tup a xs _ sx q =>
        cases rx
        rcases sx with ⟨o, hd, sx⟩ | ⟨o, its, n, hk, hc, hd, _⟩
        · obtain ⟨e1, _, its, _, ob, e2, hc, _⟩ : s.heap.get? a = some o ∧ xs.length ≤ sizeLine ∧ ∃ its : List Value, Vals xs its ∧ IsTup s.heap a its.toArray := I.hok a _ sx
          rw [e1] at e2
          cases e2
          exact ⟨⟨_, e1, hc⟩, fun b eb => by cases eb; exact ⟨_, e1, hd⟩⟩
        · have e1 := I.kIn a o (hK ▸ hk)
          exact ⟨⟨_, e1, hc⟩, fun b eb => by cases eb; exact ⟨_, e1, hd⟩⟩
    | _ => cases h
  | _ => cases h
theorem te_mth {m : MF} {o : Expr} {co : E} {apos cpos : Pos} (hK : X.K = L.K) (pa : PlainAttrs (mthT m)) (slot : Slot (mthT m) (mthN m) (mthI m)) (hty : typeOf (.builtin (mthI m)) = pure (.type "method_descriptor")) (hm : MtR X (mthI m) (rMt L m))
    (ho : PE X o (TEx L F W co)) (ha : PA X (e :: es) (TAx L F W cs))
    (hbase : attributeBase o (mthN m) X.env (eval o X.env) = eval o X.env)
    (hfew : ((backTo cpos (starEach (e :: es) X.env)).all (fun x => !x.1) && (backToKw cpos (keywordEach [] X.env)).all (fun x => x.1.isSome)
      && decide ((e :: es).length + ([] : List Keyword).length + (if ([] : List Keyword).isEmpty then 0 else 1) < 30)) = true)
    (hline : (apos.endLine == cpos.line) = true) (hs : starEach (e :: es) X.env = (false, eval e X.env) :: starEach es X.env) (hplain : (backTo cpos (starEach es X.env)).any (·.1) = false) :
    PE X (.Call (.Attribute o (mthN m) apos) (e :: es) [] cpos) (TEx L F W (.mth m co cs)) := by
  refine ⟨fun pins s σ H Q I ⟨ρ, M, μ, S, h⟩ => ?_⟩
  refine wpAny_Call_method_late hbase hfew hline rfl (thn (ho.run pins s σ H (fun x H1 => ∃ M1 μ1 d, RS L ρ σ H1 μ1 M1 ∧ RD L H1 μ1 x d ∧ mthOk m d M1 = true ∧ TAx L F W cs σ H1 fun xs H2 => rMt L m x xs H2 Q) I (TEx.first S h fun x H1 μ1 M1 dx e1 S1 rx h1 => ?_)) fun v s1 ⟨x, H1, I1, r1, M1, μ1, d, S1, rd, ok, q⟩ => ?_)
  · obtain ⟨c, h2⟩ := ite_ok h1
    exact ⟨M1, μ1, dx, S1, rx, c, TAx.first S1 h2 fun xs H2 μ2 M2 ds e2 S2 rs h3 => ⟨M2, μ2, dx, ds, S2.m, rx.ext S1.m e2, rs, h3.nox nex_mth⟩⟩
  · obtain ⟨h1, h2⟩ := mth_ty hK I1 S1.m r1 rd ok
    refine ⟨mthT m, mthI m, pa, slot, hty, h1, h2, ?_⟩
    have hA := ha.run cpos pins s1 σ H1 _ I1 q
    rw [hs] at hA ⊢
    refine Calls.callWith_builtin (by show (false || (backTo cpos (starEach es X.env)).any (·.1)) = false; rw [hplain] <;> rfl) (Calls.evalArgs_plain ?_)
    exact thn hA fun us s2 ⟨vs, H2, I2, r2, q2⟩ => hm pins s2 σ H2 x vs v us Q I2 r1 r2 q2
end
end Mi
end
section
set_option Elab.async false
set_option linter.all false
set_option maxRecDepth 100000
set_option maxHeartbeats 1000000
set_option exponentiation.threshold 20000
/-! MiI: what is walked, targets, comprehensions. -/
namespace Mi
open PySem PySem.Spec PyProof.Rows L2

/-! ### what is walked -/
def kd : D → Bool
  | .tup _ => false
  | _ => true
/-- a list or a tuple that is walked -/
def Ssq (K : PySem.W.Frag) (L : Place) (H : Hp) (μ : List Addr) (a : Addr) (b : Bool) (sr : Sr) : Prop :=
  ∀ H' μ' M', Ext H μ H' μ' → RM L H' μ' M' → ∀ i o, sr.at i M' = some o → ∃ xs ds, SqB K H' a xs b ∧ RDs L H' μ' xs ds ∧ i ≤ ds.length ∧ o = ds[i]?
def RSr (L : Place) : Hp → List Addr → L2.It → Sr → Prop := fun H μ J sr =>
  ∀ H' μ' M', Ext H μ H' μ' → RM L H' μ' M' → ∀ i o, sr.at i M' = some o → match o with
    | none => J.stop i H'
    | some d => J.go i H' ∧ ∀ x H2, J.yld i H' x H2 → Ext H' μ' H2 μ' ∧ RM L H2 μ' M' ∧ RD L H2 μ' x d
section
variable {X : Cx} {L : Place} {F : Fns} {W : WX} {H : Hp} {μ : List Addr} {M : Mem}
theorem Ssq.ext {K : PySem.W.Frag} {H1 : Hp} {μ1 : List Addr} {a : Addr} {b : Bool} {sr : Sr} (h : Ssq K L H μ a b sr) (e : Ext H μ H1 μ1) : Ssq K L H1 μ1 a b sr := fun H' μ' M' e' R => h H' μ' M' (e.trans e') R
theorem ssq_val (hK : X.K = L.K) (R : RM L H μ M) {v : V} {d : D} {sr : Sr} (r : RD L H μ v d) (e : srOf d M = some sr) : ∃ a, v = .ref a ∧ (∃ xs, SqB X.K H a xs (kd d)) ∧ Ssq X.K L H μ a (kd d) sr := by
  have tupCase : ∀ {ds : List D} {i : Nat} {o : Option D}, (if i ≤ ds.length then some ds[i]? else none) = some o → i ≤ ds.length ∧ o = ds[i]? := fun {ds i o} h => by
    split at h
    · rename_i c
      cases h
      exact ⟨c, rfl⟩
    · cases h
  cases r with
  | @tup a xs ds s q =>
    cases e
    exact ⟨a, rfl, ⟨xs, hK ▸ s.seq⟩, fun H' μ' M' x R' i o h => let ⟨h1, h2⟩ := tupCase h; ⟨xs, ds, hK ▸ (s.ext R x).seq, RDs.ext R x q, h1, h2⟩⟩
  | @rol a xs ds s q =>
    cases e
    exact ⟨a, rfl, ⟨xs, hK ▸ s.seq⟩, fun H' μ' M' x R' i o h => let ⟨h1, h2⟩ := tupCase h; ⟨xs, ds, hK ▸ (s.ext R x).seq, RDs.ext R x q, h1, h2⟩⟩
  | @obj n a ha =>
    have e : (match M[n]? with
      | some (.lst _) => some (Sr.lst n)
      | _ => none) = some sr := e
    split at e
    · rename_i ds h1
      cases e
      obtain ⟨xs, hx, _⟩ := RO.lst_of R ha h1
      refine ⟨a, rfl, ⟨xs, SqL.of hx⟩, fun H' μ' M' x R' i o h => ?_⟩
      have h : (match M'[n]? with
        | some (.lst xs) => if i ≤ xs.length then some xs[i]? else none
        | _ => none) = some o := h
      split at h
      · rename_i es h2
        obtain ⟨ys, hy, qy⟩ := RO.lst_of R' (x.get ha) h2
        obtain ⟨h1, h2⟩ := tupCase h
        exact ⟨ys, es, SqL.of hy, qy, h1, h2⟩
      · cases h
    · cases e
  | _ => cases e
theorem rsr_list {a : Addr} {sr : Sr} (h : Ssq X.K L H μ a true sr) : RSr L H μ (Itl X.K a) sr := fun H' μ' M' e R i o hi => by
  obtain ⟨xs, ds, hs, q, hl, rfl⟩ := h H' μ' M' e R i o hi
  cases ed : ds[i]? with
  | none => exact ⟨xs, hs, by rw [q.length]; exact List.getElem?_eq_none_iff.mp ed⟩
  | some d =>
    obtain ⟨v, h1, h2⟩ := q.get ed
    refine ⟨⟨xs, v, hs, h1⟩, fun x H2 ⟨e2, y⟩ => ?_⟩
    subst e2
    have := y xs hs
    rw [h1] at this
    cases this
    exact ⟨Ext.refl, R, h2⟩
theorem rsr_tup {a : Addr} {sr : Sr} (h : Ssq X.K L H μ a false sr) : RSr L H μ (Itt X.K a) sr := fun H' μ' M' e R i o hi => by
  obtain ⟨xs, ds, hs, q, hl, rfl⟩ := h H' μ' M' e R i o hi
  cases ed : ds[i]? with
  | none => exact ⟨xs, hs, by rw [q.length]; exact List.getElem?_eq_none_iff.mp ed⟩
  | some d =>
    obtain ⟨v, h1, h2⟩ := q.get ed
    refine ⟨⟨xs, v, hs, h1⟩, fun x H2 ⟨e2, y⟩ => ?_⟩
    subst e2
    have := y xs hs
    rw [h1] at this
    cases this
    exact ⟨Ext.refl, R, h2⟩
theorem rsr_rng {lo : Int} {n : Nat} : RSr L H μ (Itr lo n) (.rng lo n) := fun H' μ' M' e R i o hi => by
  have hi : (if i < n then some (some (D.int (lo + i))) else some none) = some o := hi
  split at hi
  · rename_i c
    cases hi
    refine ⟨c, fun x H2 ⟨e2, y⟩ => ?_⟩
    subst e2 y
    exact ⟨Ext.refl, R, .int _⟩
  · rename_i c
    cases hi
    exact Nat.le_of_not_lt c
theorem rsr_en {a : Addr} {b : Bool} {sr : Sr} (h : Ssq X.K L H μ a b sr) : RSr L H μ (Ien X.K a b) (.enum sr) := fun H' μ' M' e R i o hi => by
  have hi : (match sr.at i M' with
    | some (some d) => some (some (D.pr [.int i, d]))
    | some none => some none
    | none => none) = some o := hi
  split at hi
  · rename_i d h1
    cases hi
    obtain ⟨xs, ds, hs, q, hl, ed⟩ := h H' μ' M' e R i _ h1
    obtain ⟨v, h2, h3⟩ := q.get ed.symm
    refine ⟨⟨xs, v, hs, h2⟩, fun x H2 ⟨T, y, e1, e2, e3, e4⟩ => ?_⟩
    subst e1 e3
    have := e4 xs hs
    rw [h2] at this
    cases this
    exact new_pr R e2 (.cons (.int _) (.cons h3 .nil))
  · rename_i h1
    cases hi
    obtain ⟨xs, ds, hs, q, hl, ed⟩ := h H' μ' M' e R i _ h1
    exact ⟨xs, hs, by rw [q.length]; exact Nat.le_antisymm (List.getElem?_eq_none_iff.mp ed.symm) hl⟩
  · cases hi
theorem rsr_zi {a c : Addr} {b d : Bool} {sr sq : Sr} (h : Ssq X.K L H μ a b sr) (k : Ssq X.K L H μ c d sq) : RSr L H μ (Izi X.K a c b d) (.zip sr sq) := fun H' μ' M' e R i o hi => by
  have hi : (match sr.at i M', sq.at i M' with
    | some (some x), some (some y) => some (some (D.pr [x, y]))
    | some none, some _ => some none
    | some (some _), some none => some none
    | _, _ => none) = some o := hi
  cases h1 : sr.at i M' with
  | none => rw [h1] at hi; cases sq.at i M' <;> cases hi
  | some o1 =>
    cases h2 : sq.at i M' with
    | none => rw [h1, h2] at hi; cases o1 <;> cases hi
    | some o2 =>
      rw [h1, h2] at hi
      obtain ⟨xs, ds, hs, q, hl, ed⟩ := h H' μ' M' e R i _ h1
      obtain ⟨ys, es, hs', q', hl', ed'⟩ := k H' μ' M' e R i _ h2
      have lx := q.length
      have ly := q'.length
      cases o1 with
      | none =>
        cases hi
        have := List.getElem?_eq_none_iff.mp ed.symm
        exact ⟨xs, ys, hs, hs', by omega, by omega, by omega⟩
      | some d1 =>
        cases o2 with
        | none =>
          cases hi
          have := List.getElem?_eq_none_iff.mp ed'.symm
          exact ⟨xs, ys, hs, hs', by omega, by omega, by omega⟩
        | some d2 =>
          cases hi
          obtain ⟨v, h3, h4⟩ := q.get ed.symm
          obtain ⟨w, h5, h6⟩ := q'.get ed'.symm
          refine ⟨⟨xs, ys, v, w, hs, hs', h3, h5⟩, fun x H2 ⟨T, y1, y2, e1, e2, e3, e4, e5⟩ => ?_⟩
          subst e1 e3
          have z1 := e4 xs hs
          rw [h3] at z1
          cases z1
          have z2 := e5 ys hs'
          rw [h5] at z2
          cases z2
          exact new_pr R e2 (.cons h4 (.cons h6 .nil))
end
def TIx (L : Place) (F : Fns) (W : WX) (t : It) : TI := fun σ H R => ∃ ρ M μ, RS L ρ σ H μ M ∧ Tq (RSr L) L H μ (evI F t ρ M) (wX L W σ H μ) R
section
variable {X : Cx} {L : Place} {F : Fns} {W : WX} {tg e e2 : Expr} {ce c2 : E} {p pos : Pos} {cs : Es}
theorem PI.imp {t t' : TI} (h : PI X tg e t) (k : ∀ σ H Q, t' σ H Q → t σ H Q) : PI X tg e t' := ⟨fun pins s σ H Q I hw => h.run pins s σ H Q I (k _ _ _ hw)⟩
/-- by cases on what comes out -/
theorem TEx.split {σ : L2.St} {H : Hp} {μ : List Addr} {ρ : Env} {M : Mem} {c : E} {β δ : Type} {rel' : Hp → List Addr → δ → β → Prop} {f : D → Mem → Res β} {Q : δ → Hp → Prop} {P : VK} (S : RS L ρ σ H μ M) (h : Tq rel' L H μ ((evE F c ρ M).bind f) (wX L W σ H μ) Q)
    (k : ∀ v H1 μ1 M1 d, evE F c ρ M = .ok d M1 → Ext H μ H1 μ1 → RS L ρ σ H1 μ1 M1 → RD L H1 μ1 v d → Tq rel' L H1 μ1 (f d M1) (wX L W σ H1 μ1) Q → P v H1) : TEx L F W c σ H P := by
  refine ⟨ρ, M, μ, S, ?_⟩
  cases e : evE F c ρ M with
  | ok d M1 =>
    rw [e] at h
    exact fun v H1 μ1 x R r => k v H1 μ1 M1 d e x (S.ext x R) r (Tq.ext x h)
  | ex x M1 => rw [e] at h; exact h
  | bad => rw [e] at h; exact h
theorem ti_val (hK : X.K = L.K) (he : PE X e (TEx L F W ce)) : PI X tg e (TIx L F W (.val ce)) := by
  refine ⟨fun pins s σ H R I ⟨ρ, M, μ, S, h⟩ => ?_⟩
  have h : Tq (RSr L) L H μ ((evE F ce ρ M).bind fun d M => ofOpt (srOf d M) M) (wX L W σ H μ) R := h
  by_cases hk : ∃ d M1, evE F ce ρ M = .ok d M1 ∧ kd d = false
  · obtain ⟨d0, M0, ed, ek⟩ := hk
    refine (pi_tup he).run pins s σ H R I (TEx.split S h fun v H1 μ1 M1 d e1 x1 S1 r h1 => ?_)
    rw [ed] at e1
    cases e1
    obtain ⟨sr, e2, h2⟩ := opt_ok h1
    obtain ⟨a, rfl, hx, hs⟩ := ssq_val hK S1.m r e2
    rw [ek] at hx hs
    exact ⟨a, rfl, hx, h2 _ H1 μ1 Ext.refl S1.m (rsr_tup hs)⟩
  · refine (pi_list he).run pins s σ H R I (TEx.split S h fun v H1 μ1 M1 d e1 x1 S1 r h1 => ?_)
    have ek : kd d = true := by
      cases q : kd d with
      | true => rfl
      | false => exact absurd ⟨d, M1, e1, q⟩ hk
    obtain ⟨sr, e2, h2⟩ := opt_ok h1
    obtain ⟨a, rfl, hx, hs⟩ := ssq_val hK S1.m r e2
    rw [ek] at hx hs
    exact ⟨a, rfl, hx, h2 _ H1 μ1 Ext.refl S1.m (rsr_list hs)⟩
theorem ti_en {elts : List Expr} {kk : Nat} {tpos : Pos} (hK : X.K = L.K) (hg : Gl X "enumerate") (hm : X.mg "enumerate" = none) (he : PE X e (TEx L F W ce)) (hs : starEach [e] X.env = [(false, eval e X.env)]) :
    PI X (.Tuple elts kk tpos) (.Call (.Name "enumerate" p) [e] [] pos) (TIx L F W (.enum ce)) := by
  refine ⟨fun pins s σ H R I ⟨ρ, M, μ, S, h⟩ => ?_⟩
  have h : Tq (RSr L) L H μ ((evE F ce ρ M).bind fun d M => ofOpt ((srOf d M).map .enum) M) (wX L W σ H μ) R := h
  have go : ∀ b, (∀ d M1, evE F ce ρ M = .ok d M1 → kd d = b) → _ := fun b hb => (pi_en (tpos := tpos) (elts := elts) (kk := kk) (p := p) (pos := pos) hg hm he hs b).run pins s σ H R I (TEx.split S h fun v H1 μ1 M1 d e1 x1 S1 r h1 => by
    obtain ⟨sr, e2, h2⟩ := opt_ok h1
    obtain ⟨sq, e3, rfl⟩ := Option.map_eq_some_iff.mp e2
    obtain ⟨a, rfl, ⟨xs, hx⟩, hs⟩ := ssq_val hK S1.m r e3
    rw [hb d M1 e1] at hx hs
    exact ⟨a, xs, rfl, hx, h2 _ H1 μ1 Ext.refl S1.m (rsr_en hs)⟩)
  cases ev : evE F ce ρ M with
  | ok d M1 => exact go (kd d) fun d' M' e => by rw [ev] at e; cases e; rfl
  | ex x M1 => exact go true fun d' M' e => by rw [ev] at e; cases e
  | bad => exact go true fun d' M' e => by rw [ev] at e; cases e
theorem ti_zi {elts : List Expr} {kk : Nat} {tpos : Pos} (hK : X.K = L.K) (hg : Gl X "zip") (hm : X.mg "zip" = none) (he : PE X e (TEx L F W ce)) (he2 : PE X e2 (TEx L F W c2)) (hs : starEach [e, e2] X.env = (false, eval e X.env) :: starEach [e2] X.env) (hs2 : starEach [e2] X.env = [(false, eval e2 X.env)]) :
    PI X (.Tuple elts kk tpos) (.Call (.Name "zip" p) [e, e2] [] pos) (TIx L F W (.zip ce c2)) := by
  refine ⟨fun pins s σ H R I ⟨ρ, M, μ, S, h⟩ => ?_⟩
  have h : Tq (RSr L) L H μ ((evE F ce ρ M).bind fun x M => (evE F c2 ρ M).bind fun y M => match srOf x M, srOf y M with
    | some s, some t => .ok (.zip s t) M
    | _, _ => .bad) (wX L W σ H μ) R := h
  have go : ∀ b b2, (∀ d M1, evE F ce ρ M = .ok d M1 → kd d = b ∧ ∀ d2 M2, evE F c2 ρ M1 = .ok d2 M2 → kd d2 = b2) → _ := fun b b2 hb => (pi_zi (tpos := tpos) (elts := elts) (kk := kk) (p := p) (pos := pos) hg hm he he2 hs hs2 b b2).run pins s σ H R I (TEx.split S h fun v H1 μ1 M1 d e1 x1 S1 r h1 =>
    TEx.split S1 h1 fun v2 H2 μ2 M2 d2 e2 x2 S2 r2 h2 => by
      obtain ⟨hb1, hb2⟩ := hb d M1 e1
      have hb2 := hb2 d2 M2 e2
      split at h2
      · rename_i sr sq i1 i2
        obtain ⟨a, rfl, ⟨xs, hx⟩, hs⟩ := ssq_val hK S2.m (r.ext S1.m x2) i1
        obtain ⟨c, rfl, ⟨ys, hy⟩, hs'⟩ := ssq_val hK S2.m r2 i2
        rw [hb1] at hx hs
        rw [hb2] at hy hs'
        exact ⟨a, c, xs, ys, rfl, rfl, hx, hy, h2 _ H2 μ2 Ext.refl S2.m (rsr_zi hs hs')⟩
      · exact h2.elim)
  cases ev : evE F ce ρ M with
  | ok d M1 =>
    cases ev2 : evE F c2 ρ M1 with
    | ok d2 M2 => exact go (kd d) (kd d2) fun d' M' e => by rw [ev] at e; cases e; exact ⟨rfl, fun d3 M3 e3 => by rw [ev2] at e3; cases e3; rfl⟩
    | ex x M2 => exact go (kd d) true fun d' M' e => by rw [ev] at e; cases e; exact ⟨rfl, fun d3 M3 e3 => by rw [ev2] at e3; cases e3⟩
    | bad => exact go (kd d) true fun d' M' e => by rw [ev] at e; cases e; exact ⟨rfl, fun d3 M3 e3 => by rw [ev2] at e3; cases e3⟩
  | ex x M1 => exact go true true fun d' M' e => by rw [ev] at e; cases e
  | bad => exact go true true fun d' M' e => by rw [ev] at e; cases e
theorem ti_rng1 (hg : Gl X "range") (hm : X.mg "range" = none) (ha : PE X e (TEx L F W ce)) (hs : starEach [e] X.env = [(false, eval e X.env)]) : PI X tg (.Call (.Name "range" p) [e] [] pos) (TIx L F W (.rng1 ce)) :=
  PI.imp (pi_range1 hg hm (pa_cons ha pa_nil hs) hs) fun σ H R ⟨ρ, M, μ, S, h⟩ => TEx.first S h fun x H1 μ1 M1 d e1 S1 rx h1 => by
    obtain ⟨sr, e2, h2⟩ := opt_ok h1
    unfold rng1O at e2
    split at e2
    · rename_i j
      split at e2
      · rename_i c
        cases e2
        cases rx
        exact ⟨j, rfl, by omega, by omega, h2 _ H1 μ1 Ext.refl S1.m rsr_rng⟩
      · cases e2
    · cases e2
theorem ti_rng2 (hg : Gl X "range") (hm : X.mg "range" = none) (ha : PE X e (TEx L F W ce)) (ha2 : PE X e2 (TEx L F W c2)) (hs : starEach [e, e2] X.env = (false, eval e X.env) :: starEach [e2] X.env) (hs2 : starEach [e2] X.env = [(false, eval e2 X.env)]) :
    PI X tg (.Call (.Name "range" p) [e, e2] [] pos) (TIx L F W (.rng2 ce c2)) :=
  PI.imp (pi_range2 hg hm (pa_cons ha (pa_cons ha2 pa_nil hs2) hs) (by rw [hs, hs2]) hs2) fun σ H R ⟨ρ, M, μ, S, h⟩ => TEx.first S h fun x H1 μ1 M1 d e1 S1 rx h1 => TEx.first S1 h1 fun y H2 μ2 M2 d2 x2 S2 ry h2 => by
    obtain ⟨sr, e2, h2⟩ := opt_ok h2
    unfold rng2O at e2
    split at e2
    · rename_i i j
      split at e2
      · rename_i c
        cases e2
        cases rx
        cases ry
        exact ⟨i, j, rfl, by omega, h2 _ H2 μ2 Ext.refl S2.m rsr_rng⟩
      · cases e2
    · cases e2
end

/-! ### targets -/
mutual
def T.names : T → List Nat
  | .nm i => [i]
  | .tup ts => T.namesL ts
def T.namesL : List T → List Nat
  | [] => []
  | t :: ts => T.names t ++ T.namesL ts
end
/-- σ' is σ but at the slots ns -/
def Chg (ns : List Nat) (σ σ' : L2.St) : Prop := σ'.length = σ.length ∧ ∀ i, i ∉ ns → σ'[i]? = σ[i]?
theorem Chg.refl {ns : List Nat} {σ : L2.St} : Chg ns σ σ := ⟨rfl, fun _ _ => rfl⟩
theorem Chg.trans {ns ms : List Nat} {σ σ' σ2 : L2.St} (a : Chg ns σ σ') (b : Chg ms σ' σ2) : Chg (ns ++ ms) σ σ2 :=
  ⟨b.1.trans a.1, fun i h => (b.2 i fun z => h (List.mem_append_right _ z)).trans (a.2 i fun z => h (List.mem_append_left _ z))⟩
theorem wipe_get {σ : L2.St} {i : Nat} : ∀ {vs : List Nat}, (L2.wipe σ vs)[i]? = if i ∈ vs then (if i < σ.length then some none else none) else σ[i]?
  | [] => by simp [L2.wipe]
  | v :: vs => by
    show ((L2.wipe σ vs).set v none)[i]? = _
    by_cases hv : v = i
    · subst hv
      rw [if_pos List.mem_cons_self]
      by_cases hl : v < σ.length
      · rw [List.getElem?_set_self (by rw [wipe_length]; exact hl), if_pos hl]
      · rw [if_neg hl, List.getElem?_eq_none]
        rw [List.length_set, wipe_length]
        omega
    · rw [List.getElem?_set_ne hv, wipe_get]
      by_cases hm : i ∈ vs
      · rw [if_pos hm, if_pos (List.mem_cons_of_mem _ hm)]
      · rw [if_neg hm, if_neg (by simp only [List.mem_cons, not_or]; exact ⟨fun z => hv z.symm, hm⟩)]
theorem Chg.wipe {ns vs : List Nat} {σ σ' : L2.St} (h : Chg ns (L2.wipe σ vs) σ') (hs : ∀ i ∈ ns, i ∈ vs) : L2.wipe σ' vs = L2.wipe σ vs := by
  apply List.ext_getElem?
  intro i
  have hl := h.1
  rw [wipe_length] at hl
  rw [wipe_get, wipe_get, hl]
  by_cases hm : i ∈ vs
  · rw [if_pos hm, if_pos hm]
  · rw [if_neg hm, if_neg hm, h.2 i fun z => hm (hs i z), wipe_get, if_neg hm]
def TGx (L : Place) (t : T) : TG := fun v σ H Q => ∃ ρ M μ d ρ', RS L ρ σ H μ M ∧ RD L H μ v d ∧ bindT t d ρ = some ρ' ∧ ∀ σ', Chg t.names σ σ' → RS L ρ' σ' H μ M → Q σ' H
def TGsx (L : Place) (ts : List T) : TGs := fun vs σ H Q => ∃ ρ M μ ds ρ', RS L ρ σ H μ M ∧ RDs L H μ vs ds ∧ bindTs ts ds ρ = some ρ' ∧ ∀ σ', Chg (T.namesL ts) σ σ' → RS L ρ' σ' H μ M → Q σ' H
section
variable {X : Cx} {L : Place} {pos : Pos}
theorem _root_.L2.PG.imp {tg : Expr} {t t' : TG} (h : PG X tg t) (k : ∀ v σ H Q, t' v σ H Q → t v σ H Q) : PG X tg t' := ⟨fun pins s σ H v u Q I r hw => h.run pins s σ H v u Q I r (k _ _ _ _ hw)⟩
theorem _root_.L2.PGs.imp {tg : List Expr} {t t' : TGs} (h : PGs X tg t) (k : ∀ v σ H Q, t' v σ H Q → t v σ H Q) : PGs X tg t' := ⟨fun pins s σ H v u Q I r hw => h.run pins s σ H v u Q I r (k _ _ _ _ hw)⟩
theorem tg_nm {i : Nat} {x : Str} (hN : X.N.Nodup) (hi : X.N[i]? = some x) (hx : Loc X.env.scope x) (hf : X.fn x = true ∨ X.env.scope.names.lookup x = some .local) : PG X (.Name x pos) (TGx L (.nm i)) :=
  (pg_name hN hi hx hf).imp fun v σ H Q ⟨ρ, M, μ, d, ρ', S, r, e, k⟩ => by
    have e : (if i < ρ.length ∧ isPr d = false then some (ρ.set i (some d)) else none) = some ρ' := e
    split at e
    · cases e
      exact k _ ⟨by simp, fun j hj => by
        have hne : i ≠ j := fun z => hj (by simp [T.names, z])
        rw [List.getElem?_set_ne hne]⟩ ⟨S.m, S.e.set r⟩
    · cases e
theorem tgs_nil : PGs X [] (TGsx L []) :=
  pgs_nil.imp fun v σ H Q ⟨ρ, M, μ, d, ρ', S, r, e, k⟩ => by
    cases r with
    | nil =>
      have e : some ρ = some ρ' := e
      cases e
      exact ⟨rfl, k σ Chg.refl S⟩
    | cons => cases e
theorem tgs_cons {tg : Expr} {tgs : List Expr} {t : T} {ts : List T} (h1 : PG X tg (TGx L t)) (h2 : PGs X tgs (TGsx L ts)) (hs : (assignEach (tg :: tgs) X.env).map (·.2) = assign tg X.env :: (assignEach tgs X.env).map (·.2)) : PGs X (tg :: tgs) (TGsx L (t :: ts)) :=
  (pgs_cons h1 h2 hs).imp fun vs σ H Q ⟨ρ, M, μ, ds, ρ', S, r, e, k⟩ => by
    cases r with
    | nil => cases e
    | @cons v d vs ds rv rs =>
      have e : (match bindT t d ρ with
        | some ρ' => bindTs ts ds ρ'
        | none => none) = some ρ' := e
      split at e
      · rename_i ρ1 e1
        exact ⟨v, vs, rfl, ρ, M, μ, d, ρ1, S, rv, e1, fun σ1 c1 S1 => ⟨ρ1, M, μ, ds, ρ', S1, rs, e, fun σ2 c2 S2 => k σ2 (c1.trans c2) S2⟩⟩
      · cases e
theorem bindTs_len : ∀ {ts : List T} {ds : List D} {ρ ρ' : Env}, bindTs ts ds ρ = some ρ' → ds.length = ts.length
  | [], [], _, _, _ => rfl
  | [], _ :: _, _, _, e => by cases e
  | _ :: _, [], _, _, e => by cases e
  | t :: ts, d :: ds, ρ, ρ', e => by
    have e : (match bindT t d ρ with
      | some ρ' => bindTs ts ds ρ'
      | none => none) = some ρ' := e
    split at e
    · rw [List.length_cons, List.length_cons, bindTs_len e]
    · cases e
theorem tg_tup {es : List Expr} {k : Nat} {ts : List T} (hK : X.K = L.K) (hc : X.calm = true) (h : PGs X es (TGsx L ts)) (hn : (assignEach es X.env).length = ts.length) (hst : (assignEach es X.env).findIdx? (·.1) = none) : PG X (.Tuple es k pos) (TGx L (.tup ts)) :=
  (pg_tup hc h hn hst).imp fun v σ H Q ⟨ρ, M, μ, d, ρ', S, r, e, kk⟩ => by
    cases r with
    | @tup a xs ds s q =>
      have e : bindTs ts ds ρ = some ρ' := e
      exact ⟨a, xs, rfl, hK ▸ s.seq, by rw [q.length, bindTs_len e], ρ, M, μ, ds, ρ', S, q, e, kk⟩
    | @pr a xs ds s q =>
      have e : bindTs ts ds ρ = some ρ' := e
      exact ⟨a, xs, rfl, hK ▸ s, by rw [q.length, bindTs_len e], ρ, M, μ, ds, ρ', S, q, e, kk⟩
    | _ => cases e
end
end Mi
end
section
set_option Elab.async false
set_option linter.all false
set_option maxRecDepth 100000
set_option maxHeartbeats 1000000
set_option exponentiation.threshold 20000
/-! MiJ: comprehensions. -/
namespace Mi
open PySem PySem.Spec PyProof.Rows L2
section
variable {L : Place} {F : Fns} {W : WX}
/-- what is no list is kept -/
def Keeps (H H' : Hp) : Prop := ∀ a o, H a = some o → (∀ xs, o ≠ .lst xs) → H' a = some o
theorem Keeps.tup {H H' : Hp} (h : Keeps H H') {a : Addr} {xs : List V} (s : TupF L.K H a xs) : TupF L.K H' a xs := by
  rcases s with ⟨o, d, s⟩ | s
  · exact .inl ⟨o, d, h _ _ s nofun⟩
  · exact .inr s
theorem Keeps.sqT {H H' : Hp} (h : Keeps H H') {a : Addr} {xs : List V} (s : SqT L.K H a xs) : SqT L.K H' a xs := by
  rcases s with s | s
  · rcases s with s | ⟨o, s⟩
    · exact .inl (.inl (h _ _ s nofun))
    · exact .inl (.inr ⟨o, h _ _ s nofun⟩)
  · exact .inr s
theorem Keeps.sqF {H H' : Hp} (h : Keeps H H') {a : Addr} {xs : List V} (s : SqF L.K H a xs) : SqF L.K H' a xs := by
  rcases s with ⟨o, s⟩ | s
  · exact .inl ⟨o, h _ _ s nofun⟩
  · exact .inr s
mutual
theorem RD.move {H H' : Hp} {μ μ' : List Addr} (h0 : Keeps H H') (k : ∀ (n : Nat) (a : Addr), μ[n]? = some a → μ'[n]? = some a) : ∀ {d : D} {v : V}, RD L H μ v d → RD L H' μ' v d
  | .non, _, h => by cases h; exact .non
  | .bl _, _, h => by cases h; exact .bl _
  | .int _, _, h => by cases h; exact .int _
  | .str _, _, h => by cases h; exact .str _
  | .tup ds, _, h => by
    cases h with
    | tup s r => exact .tup (h0.tup s) (RDs.move h0 k r)
  | .pr ds, _, h => by
    cases h with
    | pr s r => exact .pr (h0.sqT s) (RDs.move h0 k r)
  | .rol ds, _, h => by
    cases h with
    | rol s r => exact .rol (h0.sqF s) (RDs.move h0 k r)
  | .obj _, _, h => by
    cases h with
    | obj s => exact .obj (k _ _ s)
  | .fn _, _, h => by cases h; exact .fn _
  | .ty _, _, h => by cases h; exact .ty _
theorem RDs.move {H H' : Hp} {μ μ' : List Addr} (h0 : Keeps H H') (k : ∀ (n : Nat) (a : Addr), μ[n]? = some a → μ'[n]? = some a) : ∀ {ds : List D} {vs : List V}, RDs L H μ vs ds → RDs L H' μ' vs ds
  | [], _, h => by cases h; exact .nil
  | d :: ds, _, h => by
    cases h with
    | cons a b => exact .cons (RD.move h0 k a) (RDs.move h0 k b)
end
theorem Keeps.upd {H : Hp} {B : Addr} {acc acc' : List V} (hB : H B = some (.lst acc)) : Keeps H (upd H B (.lst acc')) := fun a o h n => by
  have hne : a ≠ B := fun z => by
    subst z
    rw [hB] at h
    exact n acc (Option.some.inj h).symm
  rw [upd_ne hne]
  exact h
theorem RS.off {H : Hp} {μ : List Addr} {M : Mem} {B : Addr} {acc acc' : List V} {ρ : Env} {σ : L2.St} (S : RS L ρ σ H μ M) (hB : H B = some (.lst acc)) (hn : B ∉ μ) : RS L ρ σ (upd H B (.lst acc')) μ M := by
  have hk := Keeps.upd (acc' := acc') hB
  refine ⟨⟨S.m.len, S.m.nd, fun n a o h1 h2 => ?_⟩, ⟨S.e.len, fun i d h => ?_⟩⟩
  · have q := S.m.at_ n a o h1 h2
    have hne : a ≠ B := fun z => hn (z ▸ List.mem_of_getElem? h1)
    cases o with
    | lst ds =>
      obtain ⟨ys, e, r⟩ := q
      exact ⟨ys, by rw [upd_ne hne]; exact e, r.move hk fun _ _ z => z⟩
    | dct => exact q.elim
  · obtain ⟨v, e, r⟩ := S.e.at_ i d h
    exact ⟨v, e, r.move hk fun _ _ z => z⟩
theorem Ext.off {H1 H : Hp} {μ1 μ : List Addr} {B : Addr} {o : HO} (e : Ext H1 μ1 H μ) (h1 : H1 B = none) : Ext H1 μ1 (upd H B o) μ :=
  ⟨e.pre, fun a u h n => by rw [upd_ne (ne_of_none h h1)]; exact e.keep a u h n, e.new⟩
/-- the new list is taken up -/
theorem adopt {H H1 : Hp} {μ μ1 : List Addr} {M : Mem} {B : Addr} {acc : List V} {ds : List D} (R : RM L H μ M) (hD : H B = some (.lst acc)) (q : RDs L H μ acc ds) (hn : B ∉ μ) (e : Ext H1 μ1 H μ) (h1 : H1 B = none) :
    Ext H1 μ1 H (μ ++ [B]) ∧ RM L H (μ ++ [B]) (M ++ [.lst ds]) ∧ RD L H (μ ++ [B]) (.ref B) (.obj M.length) := by
  have hz : (μ ++ [B])[M.length]? = some B := by rw [← R.len, List.getElem?_append_right (Nat.le_refl _), Nat.sub_self]; rfl
  have up : ∀ {ds : List Mi.D} {vs : List V}, RDs L H μ vs ds → RDs L H (μ ++ [B]) vs ds := RDs.move (fun _ _ h _ => h) fun n a h => by
    rw [List.getElem?_append_left (List.getElem?_eq_some_iff.mp h).1]
    exact h
  refine ⟨⟨?_, e.keep, fun a h n => ?_⟩, ⟨by simp [R.len], ?_, fun n a o h1 h2 => ?_⟩, .obj hz⟩
  · obtain ⟨ν, z⟩ := e.pre
    exact ⟨ν ++ [B], by rw [z, List.append_assoc]⟩
  · rcases List.mem_append.mp h with h | h
    · exact e.new a h n
    · have z : a = B := by simpa using h
      rw [z]
      exact h1
  · exact List.nodup_append.mpr ⟨R.nd, by simp, fun a ha b hb => by
      have z : b = B := by simpa using hb
      rw [z]
      intro y
      rw [y] at ha
      exact hn ha⟩
  · by_cases hn : n < M.length
    · rw [List.getElem?_append_left hn] at h2
      rw [List.getElem?_append_left (by rw [R.len]; exact hn)] at h1
      have q := R.at_ n a o h1 h2
      cases o with
      | lst ds =>
        obtain ⟨ys, e, r'⟩ := q
        exact ⟨ys, e, up r'⟩
      | dct => exact q.elim
    · have hn2 : n = M.length := by
        have := (List.getElem?_eq_some_iff.mp h2).1
        rw [List.length_append] at this
        simp at this
        omega
      subst hn2
      rw [hz] at h1
      cases h1
      rw [List.getElem?_append_right (Nat.le_refl _), Nat.sub_self] at h2
      cases h2
      exact ⟨acc, hD, up q⟩

/-- what a comprehension's loop still has to do -/
def Lft (L : Place) (H : Hp) (μ : List Addr) (Xs : Exn → Mem → Prop) (Q : VK) (r : Res (List D)) : Prop := Tq (RD L) L H μ (r.noex.bind fun acc M => alloc (.lst acc) M) Xs Q
theorem Lft.step {α γ : Type} {rel : Hp → List Addr → γ → α → Prop} {H H1 : Hp} {μ μ1 : List Addr} {Xs : Exn → Mem → Prop} {σ : L2.St} {Q : VK} {r : Res α} {f : α → Mem → Res (List D)} {P : γ → Hp → Prop} (h : Lft L H1 μ1 Xs Q (r.bind f))
    (k : ∀ a M1, Lft L H1 μ1 Xs Q (f a M1) → ∀ v H' μ', Ext H μ H' μ' → RM L H' μ' M1 → rel H' μ' v a → P v H') : Tq rel L H μ r (wX L NoW σ H μ) P := by
  cases r with
  | ok a M1 => exact fun v H' μ' e R q => k a M1 h v H' μ' e R q
  | ex x M => exact h.elim
  | bad => exact h.elim
theorem Lft.ite {H1 : Hp} {μ1 : List Addr} {Xs : Exn → Mem → Prop} {Q : VK} {c : Prop} [Decidable c] {r : Res (List D)} (h : Lft L H1 μ1 Xs Q (if c then r else .bad)) : c ∧ Lft L H1 μ1 Xs Q r := by
  by_cases hc : c
  · rw [if_pos hc] at h
    exact ⟨hc, h⟩
  · rw [if_neg hc] at h
    exact h.elim
variable {X : Cx} {elt tg iter : Expr} {t : T} {it : It} {ce cc : E} {scope : Scope} {own : List (Str × Nat)} {pos : Pos}
/-- a comprehension's reading, with its tests -/
theorem lc_read {σ : L2.St} {H : Hp} {Q : VK} {ρ : Env} {M : Mem} {μ : List Addr} {vs : List Nat} {tt : TT} {c : Env → Mem → Res Bool} (S : RS L ρ σ H μ M) (hn : ∀ i ∈ t.names, i ∈ vs)
    (ht : ∀ σ2 H2 ρ2 M2 μ2 P, RS L ρ2 σ2 H2 μ2 M2 → Tq RB L H2 μ2 (c ρ2 M2) (wX L NoW σ2 H2 μ2) P → tt σ2 H2 P)
    (h : Tq (RD L) L H μ (((evI F it ρ M).bind fun sr M => (lcLoop t (wipeE ρ vs) c (evE F ce) WF sr 0 [] M).noex).bind fun acc M => alloc (.lst acc) M) (wX L W σ H μ) Q) :
    tLc (TIx L F W it) (TGx L t) tt (TEx L F NoW ce) vs σ H Q := by
  rw [bind_bind] at h
  refine ⟨ρ, M, μ, S, Tq.bind h fun J H1 μ1 M1 sr e1 R1 hJ h1 => ?_⟩
  have S1 := S.ext e1 R1
  intro B hB
  have hBμ : B ∉ μ1 := R1.free hB
  have S2 : RS L (wipeE ρ vs) (L2.wipe σ vs) H1 μ1 M1 := ⟨S1.m, S1.e.wipe vs⟩
  have e2 : Ext H1 μ1 (upd H1 B (.lst [])) μ1 := (new_off (u := .lst []) R1 hB).1
  have R2 : RM L (upd H1 B (.lst [])) μ1 M1 := (new_off (u := .lst []) R1 hB).2
  refine ⟨fun i m H => ∃ μ M acc ds, RS L (wipeE ρ vs) (L2.wipe σ vs) H μ M ∧ H B = some (.lst acc) ∧ B ∉ μ ∧ RDs L H μ acc ds ∧ Ext H1 μ1 H μ ∧ Lft L H1 μ1 (wX L W σ H1 μ1) Q (lcLoop t (wipeE ρ vs) c (evE F ce) m sr i ds M),
    ⟨WF, μ1, M1, [], [], S2.ext e2 R2, upd_same, hBμ, .nil, e2, h1⟩, ?_⟩
  rintro i m H2 ⟨μ2, M2, acc, ds, S3, hD, hDμ, q, e3, h2⟩
  cases m with
  | zero => exact h2.elim
  | succ m =>
    have hj := hJ H2 μ2 M2 e3 S3.m i
    unfold lcLoop at h2
    split at h2
    · exact h2.elim
    · rename_i hs
      obtain ⟨x1, x2, x3⟩ := adopt S3.m hD q hDμ e3 hB
      exact .inl ⟨hj _ hs, h2 _ _ _ x1 x2 x3⟩
    · rename_i d hs
      obtain ⟨go, yld⟩ := hj _ hs
      split at h2
      · exact h2.elim
      · rename_i ρ' hb
        refine .inr ⟨go, fun H' => ∃ m', m' < m + 1 ∧ ∃ μ M acc ds, RS L (wipeE ρ vs) (L2.wipe σ vs) H' μ M ∧ H' B = some (.lst acc) ∧ B ∉ μ ∧ RDs L H' μ acc ds ∧ Ext H1 μ1 H' μ ∧ Lft L H1 μ1 (wX L W σ H1 μ1) Q (lcLoop t (wipeE ρ vs) c (evE F ce) m' sr (i + 1) ds M), fun H' z => z, fun x H4 y => ?_⟩
        obtain ⟨e4, R4, rx⟩ := yld x H4 y
        have S4 := S3.ext e4 R4
        refine ⟨_, M2, μ2, d, ρ', S4, rx, hb, fun σ2 hc S5 => ⟨hc.wipe hn, ?_⟩⟩
        have hD4 := e4.keep B _ hD hDμ
        refine ht σ2 H4 ρ' M2 μ2 _ S5 (h2.step fun b M6 h6 b' H6 μ6 e6 R6 rb => ?_)
        have rb : b' = b := rb
        subst rb
        have hD6 := e6.keep B _ hD4 hDμ
        have hDμ6 : B ∉ μ6 := fun z => by
          have := e6.new B z hDμ
          rw [hD4] at this
          cases this
        have q6 := RDs.ext R4 e6 (RDs.ext S3.m e4 q)
        have S6 : RS L ρ' σ2 H6 μ6 M6 := S5.ext e6 R6
        have W6 : RS L (wipeE ρ vs) (L2.wipe σ vs) H6 μ6 M6 := S4.ext e6 R6
        cases b' with
        | false =>
          rw [if_neg Bool.false_ne_true] at h6 ⊢
          exact ⟨m, Nat.lt_succ_self _, μ6, M6, acc, ds, W6, hD6, hDμ6, q6, (e3.trans e4).trans e6, h6⟩
        | true =>
          rw [if_pos rfl] at h6 ⊢
          refine ⟨ρ', M6, μ6, S6, h6.step fun y M7 h7 v H7 μ7 e7 R7 rv => ?_⟩
          obtain ⟨hl, h8⟩ := h7.ite
          have hD7 := e7.keep B _ hD6 hDμ6
          have hDμ7 : B ∉ μ7 := fun z => by
            have := e7.new B z hDμ6
            rw [hD6] at this
            cases this
          have q7 := RDs.ext R6 e7 q6
          have W7 : RS L (wipeE ρ vs) (L2.wipe σ vs) H7 μ7 M7 := W6.ext e7 R7
          have hk := Keeps.upd (acc' := acc ++ [v]) hD7
          exact ⟨acc, hD7, by rw [q7.length, ← LIM_eq]; exact hl, m, Nat.lt_succ_self _, μ7, M7, acc ++ [v], ds ++ [y], W7.off hD7 hDμ7, upd_same, hDμ7,
            (q7.append (.cons rv .nil)).move hk (fun _ _ z => z), (((e3.trans e4).trans e6).trans e7).off hB, h8⟩
/-- [elt for t in it if c] -/
theorem te_lci {vs : List Nat} (hc : X.calm = true) (hN : X.N.Nodup) (hi : PI X tg iter (TIx L F W it)) (ok : BlkOk X.N X.env.scope scope own) (hv : own.map (·.2) = vs) (hn : ∀ i ∈ t.names, i ∈ vs) {c : Expr}
    (hg : ∀ (s : Shared) (H : Hp) (C : Addr) (cl : List (Str × Addr)) (fp : List Addr), PG (X.blk s H scope (compEnvC scope cl C X.env) fp) tg (TGx L t)) (ht : ∀ (s : Shared) (H : Hp) (C : Addr) (cl : List (Str × Addr)) (fp : List Addr), PT (X.blk s H scope (compEnvC scope cl C X.env) fp) c (TTx L F NoW cc))
    (he : ∀ (s : Shared) (H : Hp) (C : Addr) (cl : List (Str × Addr)) (fp : List Addr), PE (X.blk s H scope (compEnvC scope cl C X.env) fp) elt (TEx L F NoW ce)) (hs : ∀ x, foldedSetIterable iter X.env x = pure x) :
    PE X (.ListComp elt [⟨tg, iter, [c], 0⟩] scope pos) (TEx L F W (.lci ce t it cc vs)) := by
  subst hv
  exact (pe_lc hc hN hi ok hg (fun s H C cl fp => pts_one (ht s H C cl fp)) he hs).imp fun σ H Q ⟨ρ, M, μ, S, h⟩ => lc_read S hn (fun σ2 H2 ρ2 M2 μ2 P S2 h2 => ⟨ρ2, M2, μ2, S2, h2⟩) h
theorem te_lc {vs : List Nat} (hc : X.calm = true) (hN : X.N.Nodup) (hi : PI X tg iter (TIx L F W it)) (ok : BlkOk X.N X.env.scope scope own) (hv : own.map (·.2) = vs) (hn : ∀ i ∈ t.names, i ∈ vs)
    (hg : ∀ (s : Shared) (H : Hp) (C : Addr) (cl : List (Str × Addr)) (fp : List Addr), PG (X.blk s H scope (compEnvC scope cl C X.env) fp) tg (TGx L t))
    (he : ∀ (s : Shared) (H : Hp) (C : Addr) (cl : List (Str × Addr)) (fp : List Addr), PE (X.blk s H scope (compEnvC scope cl C X.env) fp) elt (TEx L F NoW ce)) (hs : ∀ x, foldedSetIterable iter X.env x = pure x) :
    PE X (.ListComp elt [⟨tg, iter, [], 0⟩] scope pos) (TEx L F W (.lc ce t it vs)) := by
  subst hv
  exact (pe_lc hc hN hi ok hg (fun _ _ _ _ _ => pts_nil) he hs).imp fun σ H Q ⟨ρ, M, μ, S, h⟩ => lc_read (c := yes) S hn (fun σ2 H2 ρ2 M2 μ2 P S2 h2 => h2 true H2 μ2 Ext.refl S2.m rfl) h
end
end Mi
end
section
set_option Elab.async false
set_option linter.all false
set_option maxRecDepth 100000
set_option maxHeartbeats 1000000
set_option exponentiation.threshold 20000
/-! MiK: statements. -/
namespace Mi
open PySem PySem.Spec PyProof.Rows L2
section
variable (L : Place) (F : Fns) (W : WX)
/-- what is wanted of a statement's end -/
def Sq (H : Hp) (μ : List Addr) (o : Out) (D : Ends) : Prop :=
  match o with
  | .nx ρ M => ∀ σ H' μ', Ext H μ H' μ' → RS L ρ σ H' μ' M → D.nx σ H'
  | .ret d M => ∀ v H' μ', Ext H μ H' μ' → RM L H' μ' M → RD L H' μ' v d → D.rt v H'
  | .brk ρ M => ∀ σ H' μ', Ext H μ H' μ' → RS L ρ σ H' μ' M → D.bk σ H'
  | .cnt ρ M => ∀ σ H' μ', Ext H μ H' μ' → RS L ρ σ H' μ' M → D.ct σ H'
  | .ex x ρ M => ∀ σ H' μ' c dd, Ext H μ H' μ' → RS L ρ σ H' μ' M → RX L H' μ' c dd x → W c dd σ H'
  | .bad => False
def TSx (s : S) : TS := fun D σ H => ∃ ρ M μ, RS L ρ σ H μ M ∧ Sq L W H μ (evS F s ρ M) D
def TSsx (s : Ss) : TS := fun D σ H => ∃ ρ M μ, RS L ρ σ H μ M ∧ Sq L W H μ (evSs F s ρ M) D
end
section
variable {X : Cx} {L : Place} {F : Fns} {W : WX} {H H1 : Hp} {μ μ1 : List Addr} {ρ : Env} {σ : L2.St} {M : Mem} {D : Ends}
theorem _root_.L2.PS.imp {s : Stmt} {t t' : TS} (h : PS X s t) (k : ∀ D σ H, t' D σ H → t D σ H) : PS X s t' := ⟨fun pins s σ H D I hw => h.run pins s σ H D I (k _ _ _ hw)⟩
theorem _root_.L2.PSs.imp {s : List Stmt} {t t' : TS} (h : PSs X s t) (k : ∀ D σ H, t' D σ H → t D σ H) : PSs X s t' := ⟨fun pins s σ H D I hw => h.run pins s σ H D I (k _ _ _ hw)⟩
theorem Sq.ext {o : Out} (e : Ext H μ H1 μ1) (h : Sq L W H μ o D) : Sq L W H1 μ1 o D := by
  cases o with
  | nx ρ M => exact fun σ H' μ' x S => h σ H' μ' (e.trans x) S
  | ret d M => exact fun v H' μ' x R r => h v H' μ' (e.trans x) R r
  | brk ρ M => exact fun σ H' μ' x S => h σ H' μ' (e.trans x) S
  | cnt ρ M => exact fun σ H' μ' x S => h σ H' μ' (e.trans x) S
  | ex x ρ M => exact fun σ H' μ' c dd y S r => h σ H' μ' c dd (e.trans y) S r
  | bad => exact h
theorem Sq.out {α γ : Type} {rel : Hp → List Addr → γ → α → Prop} {r : Res α} {f : α → Mem → Out} {P : γ → Hp → Prop} (S : RS L ρ σ H μ M) (h : Sq L W H μ (r.out ρ f) D)
    (k : ∀ v H1 μ1 M1 a, Ext H μ H1 μ1 → RS L ρ σ H1 μ1 M1 → rel H1 μ1 v a → Sq L W H1 μ1 (f a M1) D → P v H1) : Tq rel L H μ r (wX L W σ H μ) P := by
  cases r with
  | ok a M1 => exact fun v H1 μ1 x R q => k v H1 μ1 M1 a x (S.ext x R) q (Sq.ext x h)
  | ex x M1 => exact fun H' μ' c dd y R r => h σ H' μ' c dd y (S.ext y R) r
  | bad => exact h
theorem TEx.out {c : E} {f : Mi.D → Mem → Out} {P : VK} (S : RS L ρ σ H μ M) (h : Sq L W H μ ((evE F c ρ M).out ρ f) D)
    (k : ∀ v H1 μ1 M1 d, Ext H μ H1 μ1 → RS L ρ σ H1 μ1 M1 → RD L H1 μ1 v d → Sq L W H1 μ1 (f d M1) D → P v H1) : TEx L F W c σ H P := ⟨ρ, M, μ, S, Sq.out S h k⟩
theorem TTx.out {c : E} {f : Bool → Mem → Out} {P : Bool → Hp → Prop} (S : RS L ρ σ H μ M) (h : Sq L W H μ ((test (evE F c ρ M)).out ρ f) D)
    (k : ∀ b H1 μ1 M1, Ext H μ H1 μ1 → RS L ρ σ H1 μ1 M1 → Sq L W H1 μ1 (f b M1) D → P b H1) : TTx L F W c σ H P := ⟨ρ, M, μ, S, Sq.out S h fun v H1 μ1 M1 a x S1 r q => by
  have r : v = a := r
  subst r
  exact k v H1 μ1 M1 x S1 q⟩
theorem TIx.out {c : It} {f : Sr → Mem → Out} {P : L2.It → Hp → Prop} (S : RS L ρ σ H μ M) (h : Sq L W H μ ((evI F c ρ M).out ρ f) D)
    (k : ∀ J H1 μ1 M1 sr, Ext H μ H1 μ1 → RS L ρ σ H1 μ1 M1 → RSr L H1 μ1 J sr → Sq L W H1 μ1 (f sr M1) D → P J H1) : TIx L F W c σ H P := ⟨ρ, M, μ, S, Sq.out S h k⟩
theorem Sq.now {ρ' : Env} {M' : Mem} (h : Sq L W H μ (.nx ρ' M') D) {σ' : L2.St} (S : RS L ρ' σ' H μ M') : D.nx σ' H := h σ' H μ Ext.refl S

variable {e a b : Expr} {ce ca cb : E} {s : Stmt} {ss sa sb : List Stmt} {cs : S} {css csa csb : Ss} {pos : Pos}
theorem tss_nil : PSs X [] (TSsx L F W .nil) := pss_nil.imp fun D σ H ⟨ρ, M, μ, S, h⟩ => h.now S
theorem tss_cons (h1 : PS X s (TSx L F W cs)) (h2 : PSs X ss (TSsx L F W css)) : PSs X (s :: ss) (TSsx L F W (.cons cs css)) :=
  (pss_cons h1 h2).imp fun D σ H ⟨ρ, M, μ, S, h⟩ => ⟨ρ, M, μ, S, by
    have h : Sq L W H μ ((evS F cs ρ M).next fun ρ M => evSs F css ρ M) D := h
    revert h
    cases evS F cs ρ M with
    | nx ρ' M' => exact fun h σ' H' μ' x S' => ⟨ρ', M', μ', S', Sq.ext x h⟩
    | ret d M' => exact id
    | brk ρ' M' => exact id
    | cnt ρ' M' => exact id
    | ex x ρ' M' => exact id
    | bad => exact id⟩
theorem ts_pass : PS X (.Pass pos) (TSx L F W .pas) := ps_pass.imp fun D σ H ⟨ρ, M, μ, S, h⟩ => h.now S
theorem ts_break : PS X (.Break pos) (TSx L F W .brk) := ps_break.imp fun D σ H ⟨ρ, M, μ, S, h⟩ => h σ H μ Ext.refl S
theorem ts_continue : PS X (.Continue pos) (TSx L F W .cnt) := ps_continue.imp fun D σ H ⟨ρ, M, μ, S, h⟩ => h σ H μ Ext.refl S
theorem ts_doc {x : Str} {j : Nat} {p2 : Pos} : PS X (.Expr (.Constant (.str x) j p2) pos) (TSx L F W .pas) := ps_doc.imp fun D σ H ⟨ρ, M, μ, S, h⟩ => h.now S
theorem ts_never {c : S} (hb : ∀ ρ M, evS F c ρ M = .bad) : PS X s (TSx L F W c) := ps_never.imp fun D σ H ⟨ρ, M, μ, S, h⟩ => by
  rw [hb] at h
  exact h.elim
theorem ts_expr (he : PE X e (TEx L F W ce)) (hs : swapsWith e none pos.line X.env = pure false) : PS X (.Expr e pos) (TSx L F W (.exp ce)) :=
  (ps_expr he hs).imp fun D σ H ⟨ρ, M, μ, S, h⟩ => TEx.out S h fun v H1 μ1 M1 d x S1 r h1 => h1.now S1
theorem ts_ret (he : PE X e (TEx L F W ce)) : PS X (.Return (some e) pos) (TSx L F W (.ret ce)) :=
  (ps_ret he).imp fun D σ H ⟨ρ, M, μ, S, h⟩ => TEx.out S h fun v H1 μ1 M1 d x S1 r h1 => h1 v H1 μ1 Ext.refl S1.m r
theorem ts_retN : PS X (.Return none pos) (TSx L F W (.ret (.con .non))) :=
  ps_retN.imp fun D σ H ⟨ρ, M, μ, S, h⟩ => h .non H μ Ext.refl S.m .non
theorem ts_if {t : Expr} {ct : E} (hc : PT X t (TTx L F W ct)) (ha : PSs X sa (TSsx L F W csa)) (hb : PSs X sb (TSsx L F W csb)) : PS X (.If t sa sb pos) (TSx L F W (.ife ct csa csb)) :=
  (ps_if hc ha hb).imp fun D σ H ⟨ρ, M, μ, S, h⟩ => TTx.out S h fun k H1 μ1 M1 x S1 h1 => by
    cases k with
    | true => exact ⟨ρ, M1, μ1, S1, h1⟩
    | false => exact ⟨ρ, M1, μ1, S1, h1⟩
/-- an assignment -/
theorem asg_read {t : T} {ρ : Env} {σ : L2.St} (S : RS L ρ σ H μ M) (h : Sq L W H μ (evS F (.asg t ce) ρ M) D) : TEx L F W ce σ H fun x H1 => TGx L t x σ H1 D.nx :=
  TEx.out S h fun v H1 μ1 M1 d x S1 r h1 => by
    cases eb : bindT t d ρ with
    | none =>
      replace h1 : Sq L W H1 μ1 (match bindT t d ρ with
        | some ρ => .nx ρ M1
        | none => .bad) D := h1
      rw [eb] at h1
      exact h1.elim
    | some ρ' =>
      replace h1 : Sq L W H1 μ1 (match bindT t d ρ with
        | some ρ => .nx ρ M1
        | none => .bad) D := h1
      rw [eb] at h1
      exact ⟨ρ, M1, μ1, d, ρ', S1, r, eb, fun σ' _ S' => h1.now S'⟩
theorem ts_asg {tg : Expr} {t : T} (he : PE X e (TEx L F W ce)) (hg : PG X tg (TGx L t)) (hs : swapsWithSole [tg] e pos.line X.env = pure false) (hw : swappedStores [tg] e X.env = pure none)
    (h1 : (assignEach [tg] X.env).map (·.2) = [assign tg X.env]) : PS X (.Assign [tg] e pos) (TSx L F W (.asg t ce)) :=
  (ps_asg he hg hs hw h1).imp fun D σ H ⟨ρ, M, μ, S, h⟩ => asg_read S h
theorem nm_g {i : Nat} {v : V} {σ : L2.St} {Q : L2.St → Hp → Prop} (h : TGx L (.nm i) v σ H Q) : gName i v σ H Q := by
  obtain ⟨ρ, M, μ, d, ρ', S, r, e, k⟩ := h
  have e : (if i < ρ.length ∧ isPr d = false then some (ρ.set i (some d)) else none) = some ρ' := e
  split at e
  · cases e
    exact k _ ⟨by simp, fun j hj => by
      have hne : i ≠ j := fun z => hj (by simp [T.names, z])
      rw [List.getElem?_set_ne hne]⟩ ⟨S.m, S.e.set r⟩
  · cases e
theorem TEx.mono {ce : E} {σ : L2.St} {H : Hp} {Q Q' : VK} (h : TEx L F W ce σ H Q) (k : ∀ v H, Q v H → Q' v H) : TEx L F W ce σ H Q' := by
  obtain ⟨ρ, M, μ, S, h⟩ := h
  exact ⟨ρ, M, μ, S, h.mono k⟩
theorem ts_set {i : Nat} {x : Str} {px : Pos} (hN : X.N.Nodup) (hi : X.N[i]? = some x) (hx : Loc X.env.scope x) (he : PE X e (TEx L F W ce)) (hs : swapsWith e (some (.Name x px)) pos.line X.env = pure false) (hf : X.fn x = true ∨ X.env.scope.names.lookup x = some .local) :
    PS X (.Assign [.Name x px] e pos) (TSx L F W (.asg (.nm i) ce)) :=
  (ps_set hN hi hx he hs hf).imp fun D σ H ⟨ρ, M, μ, S, h⟩ => TEx.mono (asg_read S h) fun v H1 h1 => nm_g h1
/-- a, b = x, y -/
theorem ts_par {i j : Nat} {x y : Str} {px py pt : Pos} {kt k2 : Nat} {pt2 : Pos} (hc : X.calm = true) (hN : X.N.Nodup) (hi : X.N[i]? = some x) (hj : X.N[j]? = some y) (hij : i ≠ j)
    (hx : X.env.scope.names.lookup x = some .local) (hy : X.env.scope.names.lookup y = some .local) (ha : PE X a (TEx L F W ca)) (hb : PE X b (TEx L F W cb)) (sa : starEach [a, b] X.env = (false, eval a X.env) :: starEach [b] X.env) (sb : starEach [b] X.env = [(false, eval b X.env)])
    (hw : swappedStores [.Tuple [.Name x px, .Name y py] kt pt] (.Tuple [a, b] k2 pt2) X.env = pure (some [x, y]))
    (hs : swapsWithSole [.Tuple [.Name x px, .Name y py] kt pt] (.Tuple [a, b] k2 pt2) pos.line X.env = pure false) :
    PS X (.Assign [.Tuple [.Name x px, .Name y py] kt pt] (.Tuple [a, b] k2 pt2) pos) (TSx L F W (.par i j ca cb)) :=
  (ps_par hc hN hi hj hij hx hy (pa_cons ha (pa_cons hb pa_nil sb) sa) hw hs).imp fun D σ H ⟨ρ, M, μ, S, h⟩ => TEx.out S h fun v H1 μ1 M1 d x1 S1 r h1 => TEx.out S1 h1 fun w H2 μ2 M2 d2 x2 S2 r2 h2 => by
    replace h2 : Sq L W H2 μ2 (if i < ρ.length ∧ j < ρ.length then .nx ((ρ.set i (some d)).set j (some d2)) M2 else .bad) D := h2
    split at h2
    · exact ⟨v, w, rfl, h2.now ⟨S2.m, (S2.e.set (r.ext S1.m x2)).set r2⟩⟩
    · exact h2.elim
/-! ### items -/
def rSetA (L : Place) : TSet := fun o i v H Q => ∃ M μ od id vd M', RM L H μ M ∧ RD L H μ o od ∧ RD L H μ i id ∧ RD L H μ v vd ∧ setD od id vd M = some M' ∧ ∀ H', Ext H μ H' μ → RM L H' μ M' → Q H'
theorem set_all : PSet X (rSetA L) := by
  intro pins s σ H o i v ov iv u Q I ro ri rv h
  obtain ⟨M, μ, od, id, vd, M', R, ho, hi, hv, e, k⟩ := h
  unfold setD at e
  split at e
  · rename_i n z
    cases ho with
    | @obj _ a ha =>
      cases hi
      split at e
      · rename_i ds h1
        obtain ⟨xs, hx, q⟩ := RO.lst_of R ha h1
        split at e
        · rename_i j h2
          cases e
          obtain ⟨x1, x2⟩ := set_lst R ha h1 (q.set j hv)
          exact set_list pins s σ H _ _ v ov iv u Q I ro ri rv ⟨a, xs, z, j, rfl, rfl, hx, by rw [q.length]; exact h2, k _ x1 x2⟩
        · cases e
      · cases e
  · cases e
def rGetA (L : Place) : V → V → Hp → VK → Prop := fun o i H Q => ∃ M μ od id d, RM L H μ M ∧ RD L H μ o od ∧ RD L H μ i id ∧ idxO od id M = some d ∧ ∀ v, RD L H μ v d → Q v H
theorem get_all (hK : X.K = L.K) : PGet X (rGetA L) := by
  intro pins s σ H o i ov iv Q I ro ri h
  obtain ⟨M, μ, od, id, d, R, ho, hi, e, k⟩ := h
  unfold idxO at e
  split at e
  · rename_i z
    cases hi
    obtain ⟨ds, e1, e2⟩ := Option.bind_eq_some_iff.mp e
    obtain ⟨a, xs, rfl, sx, q⟩ := items_seq hK R ho e1
    obtain ⟨w, h1, h2⟩ := item_at q e2
    cases ro
    obtain ⟨t, rfl⟩ := ri
    have hn := line63
    rcases sx with sx | sx
    · obtain ⟨its, r, pl, hz⟩ := I.list sx
      obtain ⟨j, g1, g2, g3, g4, g5⟩ := atI_get h1
      obtain ⟨u, eu, ru⟩ := r.get g2
      have hl := r.length
      have fin : EP X pins σ Q u s := ⟨w, H, I, ru, k w h2⟩
      by_cases h0 : 0 ≤ z
      · have hj : z.toNat = j := by
          rw [seqIndex_of h0 g5] at g1
          exact Option.some.inj g1
        exact wpAny_getItem_list pl.isList h0 (by omega) (by rw [hj]; simpa using eu) fin
      · have hj : (z + (its.toArray.size : Int)).toNat = j := by
          rw [seqIndex_neg (by omega) g4] at g1
          rw [List.size_toArray, ← hl]
          exact Option.some.inj g1
        exact wpAny_getItem_list_neg pl.isList (by omega) (by rw [List.size_toArray] <;> omega) (by omega) (by rw [hj]; simpa using eu) fin
    · obtain ⟨its, r, pl, hz⟩ := I.tuple sx
      obtain ⟨j, g1, g2, g3, g4, g5⟩ := atI_get h1
      obtain ⟨u, eu, ru⟩ := r.get g2
      have hl := r.length
      have fin : EP X pins σ Q u s := ⟨w, H, I, ru, k w h2⟩
      exact getItem_tuple (j := j) pl (by omega) (by omega) (by rw [List.size_toArray, ← hl]; exact g1) (by simpa using eu) fin
  · cases e
theorem ts_sset {o i : Expr} {co ci : E} {ps : Pos} (ho : PE X o (TEx L F W co)) (hi : PE X i (TEx L F W ci)) (he : PE X e (TEx L F W ce))
    (ha : ∀ v, assign (.Subscript o i ps) X.env v = (do
      let ov ← holding [v] (eval o X.env)
      let iv ← holding [v, ov] (eval i X.env)
      standAt ps
      holding [v, ov, iv] (setItem ov iv v)
      release [v, ov, iv] []))
    (hs : swapsWithSole [.Subscript o i ps] e pos.line X.env = pure false) (hw : swappedStores [.Subscript o i ps] e X.env = pure none) (h1 : (assignEach [.Subscript o i ps] X.env).map (·.2) = [assign (.Subscript o i ps) X.env]) :
    PS X (.Assign [.Subscript o i ps] e pos) (TSx L F W (.sset co ci ce)) :=
  (ps_asg he (pg_sub ho hi set_all ha) hs hw h1).imp fun D σ H ⟨ρ, M, μ, S, h⟩ => TEx.out S h fun v H1 μ1 M1 d x1 S1 r h1 => TEx.out S1 h1 fun w H2 μ2 M2 d2 x2 S2 r2 h2 => TEx.out S2 h2 fun z H3 μ3 M3 d3 x3 S3 r3 h3 => by
    cases eb : setD d2 d3 d M3 with
    | none =>
      replace h3 : Sq L W H3 μ3 (match setD d2 d3 d M3 with
        | some M => .nx ρ M
        | none => .bad) D := h3
      rw [eb] at h3
      exact h3.elim
    | some M' =>
      replace h3 : Sq L W H3 μ3 (match setD d2 d3 d M3 with
        | some M => .nx ρ M
        | none => .bad) D := h3
      rw [eb] at h3
      exact ⟨M3, μ3, d2, d3, d, M', S3.m, r2.ext S2.m x3, r3, (r.ext S1.m x2).ext S2.m x3, eb, fun H' x4 R4 => h3 σ H' μ3 x4 (S3.ext x4 R4)⟩
def opF : Operator → Int → Int → Int
  | .Sub => fun a b => a - b
  | _ => fun a b => a + b
theorem ip_op {op : Operator} (h : op = .Add ∨ op = .Sub) : PIp X op (ipI (opF op)) := by
  rcases h with rfl | rfl
  · exact ip_add
  · exact ip_sub
theorem ts_aug {i : Nat} {x : Str} {op : Operator} {px : Pos} (hop : op = .Add ∨ op = .Sub) (hN : X.N.Nodup) (hi : X.N[i]? = some x) (hx : Loc X.env.scope x) (he : PE X e (TEx L F W ce)) (hf : X.fn x = true ∨ X.env.scope.names.lookup x = some .local) :
    PS X (.AugAssign (.Name x px) op e pos) (TSx L F W (.aug i op ce)) :=
  (ps_aug hN hi hx he (ip_op hop) hf).imp fun D σ H ⟨ρ, M, μ, S, h⟩ => by
    have fin : ∀ a : Int, ρ[i]? = some (some (.int a)) → (TEx L F W ce σ H fun y H1 => ∃ b, y = .int b ∧ D.nx (σ.set i (some (.int (opF op a b)))) H1) → tAug i (TEx L F W ce) (ipI (opF op)) D σ H := fun a ea h => by
      obtain ⟨v, e1, rv⟩ := S.e.at_ i _ ea
      cases rv
      exact ⟨.int a, e1, TEx.mono h fun y H1 ⟨b, e2, q⟩ => ⟨a, b, rfl, e2, q⟩⟩
    have shape : ∃ a : Int, ρ[i]? = some (some (.int a)) := by
      cases e : ρ[i]? with
      | none => unfold evS at h; rw [e] at h; exact h.elim
      | some o =>
        cases o with
        | none => unfold evS at h; rw [e] at h; exact h.elim
        | some d =>
          cases d with
          | int a => exact ⟨a, rfl⟩
          | _ => unfold evS at h; rw [e] at h; exact h.elim
    obtain ⟨a, ea⟩ := shape
    refine fin a ea ?_
    unfold evS at h
    rw [ea] at h
    refine TEx.out S h fun y H1 μ1 M1 dy x1 S1 ry h1 => ?_
    cases dy with
    | int b =>
      cases ry
      refine ⟨b, rfl, ?_⟩
      rcases hop with rfl | rfl
      · exact h1.now ⟨S1.m, S1.e.set (.int _)⟩
      · exact h1.now ⟨S1.m, S1.e.set (.int _)⟩
    | _ => exact h1.elim
theorem ts_augS {o i : Expr} {co ci : E} {op : Operator} {ps : Pos} (hK : X.K = L.K) (hop : op = .Add ∨ op = .Sub) (ho : PE X o (TEx L F W co)) (hi : PE X i (TEx L F W ci)) (he : PE X e (TEx L F W ce))
    (ha : ∀ ov iv new, augStore i ov iv new = (do holding [new, ov, iv] (setItem ov iv new); release [new, ov, iv] []; pure .next)) : PS X (.AugAssign (.Subscript o i ps) op e pos) (TSx L F W (.augS co ci op ce)) :=
  (ps_augS ho hi (get_all hK) he (ip_op hop) set_all ha).imp fun D σ H ⟨ρ, M, μ, S, h⟩ => TEx.out S h fun x H1 μ1 M1 dx x1 S1 rx h1 => TEx.out S1 h1 fun k H2 μ2 M2 dk x2 S2 rk h2 => by
    split at h2
    · rename_i a ea
      refine ⟨M2, μ2, dx, dk, .int a, S2.m, rx.ext S1.m x2, rk, ea, fun v rv => ?_⟩
      · cases rv
        refine TEx.out S2 h2 fun y H3 μ3 M3 dy x3 S3 ry h3 => ?_
        cases dy with
        | int b =>
          cases ry
          refine ⟨a, b, rfl, rfl, ?_⟩
          have go : ∀ z, (match setD dx dk (.int z) M3 with
              | some M => Out.nx ρ M
              | none => .bad) = .bad ∨ ∃ M', setD dx dk (.int z) M3 = some M' := fun z => by
            cases e : setD dx dk (.int z) M3 with
            | none => exact .inl rfl
            | some M' => exact .inr ⟨M', rfl⟩
          have fin : ∀ z, Sq L W H3 μ3 (match setD dx dk (.int z) M3 with
              | some M => Out.nx ρ M
              | none => .bad) D → rSetA L x k (.int z) H3 fun H6 => D.nx σ H6 := fun z hz => by
            cases e : setD dx dk (.int z) M3 with
            | none => rw [e] at hz; exact hz.elim
            | some M' =>
              rw [e] at hz
              exact ⟨M3, μ3, dx, dk, .int z, M', S3.m, (rx.ext S1.m x2).ext S2.m x3, rk.ext S2.m x3, .int _, e, fun H' x4 R4 => hz σ H' μ3 x4 (S3.ext x4 R4)⟩
          rcases hop with rfl | rfl
          · exact fin _ h3
          · exact fin _ h3
        | _ => exact h3.elim
    · exact h2.elim
end
end Mi
end
section
set_option Elab.async false
set_option linter.all false
set_option maxRecDepth 100000
set_option maxHeartbeats 1000000
set_option exponentiation.threshold 20000
/-! MiL: loops. -/
namespace Mi
open PySem PySem.Spec PyProof.Rows L2
section
variable {X : Cx} {L : Place} {F : Fns} {W : WX} {t tg iter e : Expr} {ct ce : E} {sa : List Stmt} {csa : Ss} {it : It} {tt : T} {pos : Pos}
/-- behind a loop's turn -/
def Lp (k : Env → Mem → Out) : Out → Out
  | .nx ρ M => k ρ M
  | .cnt ρ M => k ρ M
  | .brk ρ M => .nx ρ M
  | o => o
theorem loop_turn {H : Hp} {μ : List Addr} {o : Out} {k : Env → Mem → Out} {D : Ends} {N : L2.St → Hp → Prop} (h : Sq L W H μ (Lp k o) D) (hN : ∀ ρ M σ H' μ', Ext H μ H' μ' → RS L ρ σ H' μ' M → Sq L W H' μ' (k ρ M) D → N σ H') :
    Sq L W H μ o { D with nx := N, ct := N, bk := D.nx } := by
  cases o with
  | nx ρ M => exact fun σ H' μ' x S => hN ρ M σ H' μ' x S (Sq.ext x h)
  | cnt ρ M => exact fun σ H' μ' x S => hN ρ M σ H' μ' x S (Sq.ext x h)
  | brk ρ M => exact h
  | ret d M => exact h
  | ex x ρ M => exact h
  | bad => exact h
theorem ts_while (hp : PassesOwn (model X.prog X.w) X.A X.env X.xe) (hc : PT X t (TTx L F W ct)) (hb : PSs X sa (TSsx L F W csa)) : PS X (.While t sa [] pos) (TSx L F W (.whl ct csa)) :=
  (ps_while hp hc hb).imp fun D σ H ⟨ρ, M, μ, S, h⟩ => by
    refine ⟨fun m σ H => ∃ ρ M μ, RS L ρ σ H μ M ∧ Sq L W H μ (whileLoop (fun ρ M => test (evE F ct ρ M)) (evSs F csa) m ρ M) D, ⟨WF, ρ, M, μ, S, h⟩, ?_⟩
    rintro m σ1 H1 ⟨ρ1, M1, μ1, S1, h1⟩
    cases m with
    | zero => exact h1.elim
    | succ m =>
      unfold whileLoop at h1
      refine TTx.out S1 h1 fun b H2 μ2 M2 x S2 h2 => ?_
      cases b with
      | false =>
        rw [if_neg Bool.false_ne_true] at h2 ⊢
        exact h2.now S2
      | true =>
        rw [if_pos rfl] at h2 ⊢
        refine ⟨fun σ' H' => ∃ m', m' < m + 1 ∧ ∃ ρ M μ, RS L ρ σ' H' μ M ∧ Sq L W H' μ (whileLoop (fun ρ M => test (evE F ct ρ M)) (evSs F csa) m' ρ M) D, fun _ _ z => z, ρ1, M2, μ2, S2, ?_⟩
        refine loop_turn (k := fun ρ M => whileLoop (fun ρ M => test (evE F ct ρ M)) (evSs F csa) m ρ M) ?_ fun ρ M σ' H' μ' x' S' h' => ⟨m, Nat.lt_succ_self _, ρ, M, μ', S', h'⟩
        revert h2
        cases evSs F csa ρ1 M2 <;> exact id
theorem ts_for (hp : PassesOwn (model X.prog X.w) X.A X.env X.xe) (hc : X.calm = true) (hi : PI X tg iter (TIx L F W it)) (hg : PG X tg (TGx L tt)) (hb : PSs X sa (TSsx L F W csa)) (hs : ∀ x, foldedSetIterable iter X.env x = pure x) : PS X (.For tg iter sa [] pos) (TSx L F W (.fr tt it csa)) :=
  (ps_for hp hc hi hg hb hs).imp fun D σ H ⟨ρ, M, μ, S, h⟩ => TIx.out S h fun J H1 μ1 M1 sr x1 S1 hJ h1 => by
    refine ⟨fun i m σ H => ∃ ρ M μ, RS L ρ σ H μ M ∧ Ext H1 μ1 H μ ∧ Sq L W H μ (forLoop tt (evSs F csa) m sr i ρ M) D, ⟨WF, ρ, M1, μ1, S1, Ext.refl, h1⟩, ?_⟩
    rintro i m σ2 H2 ⟨ρ2, M2, μ2, S2, x2, h2⟩
    cases m with
    | zero => exact h2.elim
    | succ m =>
      have hj := hJ H2 μ2 M2 x2 S2.m i
      unfold forLoop at h2
      split at h2
      · exact h2.elim
      · rename_i hs
        exact .inl ⟨hj _ hs, h2.now S2⟩
      · rename_i d hs
        obtain ⟨go, yld⟩ := hj _ hs
        split at h2
        · exact h2.elim
        · rename_i ρ' hb
          refine .inr ⟨go, fun σ' H' => ∃ m', m' < m + 1 ∧ ∃ ρ M μ, RS L ρ σ' H' μ M ∧ Ext H1 μ1 H' μ ∧ Sq L W H' μ (forLoop tt (evSs F csa) m' sr (i + 1) ρ M) D, fun _ _ z => z, fun x H4 y => ?_⟩
          obtain ⟨e4, R4, rx⟩ := yld x H4 y
          have S4 := S2.ext e4 R4
          refine ⟨ρ2, M2, μ2, d, ρ', S4, rx, hb, fun σ5 _ S5 => ⟨ρ', M2, μ2, S5, ?_⟩⟩
          refine loop_turn (k := fun ρ M => forLoop tt (evSs F csa) m sr (i + 1) ρ M) ?_ fun ρ M σ' H' μ' x' S' h' => ⟨m, Nat.lt_succ_self _, ρ, M, μ', S', (x2.trans e4).trans x', h'⟩
          have h2 := Sq.ext e4 h2
          revert h2
          cases evSs F csa ρ' M2 <;> exact id
/-- name = [..] -/
theorem ts_lci {elt c : Expr} {cc : E} {scope : Scope} {own : List (Str × Nat)} {i : Nat} {y : Str} {py spos : Pos} {vs : List Nat} (hc : X.calm = true) (hN : X.N.Nodup) (hy : X.N[i]? = some y) (hyl : X.env.scope.names.lookup y = some .local)
    (hsw : swapsWith (.ListComp elt [⟨tg, iter, [c], 0⟩] scope pos) (some (.Name y py)) spos.line X.env = pure true) (hi : PI X tg iter (TIx L F W it)) (ok : BlkOk X.N X.env.scope scope own) (hv : own.map (·.2) = vs) (hn : ∀ i ∈ tt.names, i ∈ vs)
    (hg : ∀ (s : Shared) (H : Hp) (C : Addr) (cl : List (Str × Addr)) (fp : List Addr), PG (X.blk s H scope (compEnvC scope cl C X.env) fp) tg (TGx L tt)) (ht : ∀ (s : Shared) (H : Hp) (C : Addr) (cl : List (Str × Addr)) (fp : List Addr), PT (X.blk s H scope (compEnvC scope cl C X.env) fp) c (TTx L F NoW cc))
    (he : ∀ (s : Shared) (H : Hp) (C : Addr) (cl : List (Str × Addr)) (fp : List Addr), PE (X.blk s H scope (compEnvC scope cl C X.env) fp) elt (TEx L F NoW ce)) (hs : ∀ x, foldedSetIterable iter X.env x = pure x) :
    PS X (.Assign [.Name y py] (.ListComp elt [⟨tg, iter, [c], 0⟩] scope pos) spos) (TSx L F W (.asg (.nm i) (.lci ce tt it cc vs))) := by
  subst hv
  refine (ps_setLc hc hN hy hyl hsw hi ok hg (fun s H C cl fp => pts_one (ht s H C cl fp)) he hs).imp fun D σ H ⟨ρ, M, μ, S, h⟩ => ?_
  obtain ⟨ρ1, M1, μ1, S1, h1⟩ := TEx.mono (asg_read S h) fun v H1 h1 => nm_g h1
  exact lc_read S1 hn (fun σ2 H2 ρ2 M2 μ2 P S2 h2 => ⟨ρ2, M2, μ2, S2, h2⟩) h1
theorem ts_lc {elt : Expr} {scope : Scope} {own : List (Str × Nat)} {i : Nat} {y : Str} {py spos : Pos} {vs : List Nat} (hc : X.calm = true) (hN : X.N.Nodup) (hy : X.N[i]? = some y) (hyl : X.env.scope.names.lookup y = some .local)
    (hsw : swapsWith (.ListComp elt [⟨tg, iter, [], 0⟩] scope pos) (some (.Name y py)) spos.line X.env = pure true) (hi : PI X tg iter (TIx L F W it)) (ok : BlkOk X.N X.env.scope scope own) (hv : own.map (·.2) = vs) (hn : ∀ i ∈ tt.names, i ∈ vs)
    (hg : ∀ (s : Shared) (H : Hp) (C : Addr) (cl : List (Str × Addr)) (fp : List Addr), PG (X.blk s H scope (compEnvC scope cl C X.env) fp) tg (TGx L tt))
    (he : ∀ (s : Shared) (H : Hp) (C : Addr) (cl : List (Str × Addr)) (fp : List Addr), PE (X.blk s H scope (compEnvC scope cl C X.env) fp) elt (TEx L F NoW ce)) (hs : ∀ x, foldedSetIterable iter X.env x = pure x) :
    PS X (.Assign [.Name y py] (.ListComp elt [⟨tg, iter, [], 0⟩] scope pos) spos) (TSx L F W (.asg (.nm i) (.lc ce tt it vs))) := by
  subst hv
  refine (ps_setLc hc hN hy hyl hsw hi ok hg (fun _ _ _ _ _ => pts_nil) he hs).imp fun D σ H ⟨ρ, M, μ, S, h⟩ => ?_
  obtain ⟨ρ1, M1, μ1, S1, h1⟩ := TEx.mono (asg_read S h) fun v H1 h1 => nm_g h1
  exact lc_read (c := yes) S1 hn (fun σ2 H2 ρ2 M2 μ2 P S2 h2 => h2 true H2 μ2 Ext.refl S2.m rfl) h1
end
end Mi
end
section
set_option Elab.async false
set_option linter.all false
set_option maxRecDepth 100000
set_option maxHeartbeats 1000000
set_option exponentiation.threshold 20000
/-! MiM: calls: a def's promise by data. -/
namespace Mi
open PySem PySem.Spec PyProof.Rows L2
/-- what an exception of a call is to be -/
def eX (L : Place) (E : XK) (H : Hp) (μ : List Addr) : Exn → Mem → Prop := fun x M => ∀ H' μ' c dd, Ext H μ H' μ' → RM L H' μ' M → RX L H' μ' c dd x → E c dd H'
/-- a call's promise: R, what the def does -/
def Prm (L : Place) (R : List D → Mem → Res D) (vs : List V) (H : Hp) (Q : VK) (E : XK) : Prop := ∃ ds M μ, RM L H μ M ∧ RDs L H μ vs ds ∧ Tq (RD L) L H μ (R ds M) (eX L E H μ) Q
/-- a def does R; no repr is under way at its calls -/
def DoesG (P : Program) (w : World) (L : Place) (mg : Str → Option Value) (base : Heap) (k : Nat) (f : Addr) (fd : FuncData) (ps : List Str) (R : List D → Mem → Res D) : Prop :=
  ∀ (A : Around) (outer : List PySem.Env) (s : Shared) (H : Hp) (args : Args) (us : List Value) (vs : List V) (Q : VK) (E : XK), Room k A → A.guards = some [] → Env0 P w L.K mg base A outer s H → vs.length = ps.length → BindsTo s fd args (ps.zip us) → Vals vs us → Prm L R vs H Q E →
    codeAny (model P w) A (.call (.ref f) args) (CR (CX P w) outer P w H s Q E) s
section
variable {P : Program} {w : World} {L : Place} {mg : Str → Option Value} {base : Heap} {k : Nat} {f : Addr} {fd : FuncData} {ps : List Str} {R : List D → Mem → Res D}
theorem DoesG.never (h : ∀ ds M, R ds M = .bad) : DoesG P w L mg base k f fd ps R := fun A outer s H args us vs Q E _ _ _ _ _ _ ⟨ds, M, μ, _, _, q⟩ => by
  rw [h] at q
  exact q.elim
/-- the callee runs -/
theorem run_G {X : Cx} {W : WX} {pins : List (Addr × Obj)} {σ : L2.St} {H : Hp} {s : Shared} {us : List Value} {vs : List V} {Q : VK} {ds : List D} {M : Mem} {μ : List Addr} (hK : X.K = L.K) (tk : Takes X W) (G : DoesG X.prog X.w L X.mg X.base k f fd ps R) (hr : Room k X.A) (hg : X.A.guards = some []) (hb : Binds X.K fd ps [])
    (I : Inv X pins σ H s) (r : Vals vs us) (hl : vs.length = ps.length) (R0 : RM L H μ M) (rd : RDs L H μ vs ds) (q : Tq (RD L) L H μ (R ds M) (wX L W σ H μ) Q) : wpAny (model X.prog X.w) X.A (call (.ref f) us) (EP X pins σ Q) X.xe s := by
  have lu : us.length = ps.length := by rw [← r.length]; exact hl
  have hb' : BindsTo s fd ⟨us, []⟩ (ps.zip us) := by
    have z := hb s us I.kIn (by rw [List.append_nil]; exact lu)
    rw [List.append_nil] at z
    exact z
  refine wpAny_call (codeAny_mono (G X.A X.stack s H ⟨us, []⟩ us vs Q (fun c dd H' => W c dd σ H') hr hg (hK ▸ I.env0) hl hb' r ⟨ds, M, μ, R0, rd, ?_⟩) fun r s' hq => ?_)
  · revert q
    cases R ds M with
    | ok d M1 => exact id
    | ex x M1 => exact id
    | bad => exact id
  · cases r with
    | error e => exact tk e s' (XE.of_call I (fun cls d H' h => h) hq)
    | ok fl =>
      cases fl with
      | ret u => exact I.after hq
      | next => exact False.elim hq
      | brk => exact False.elim hq
      | cont => exact False.elim hq
/-- the slots at the entry -/
theorem start_rs {N : List Str} {vs : List V} {ds : List D} {H : Hp} {μ : List Addr} {M : Mem} {nv : Nat} (hn : N.length = nv) (hv : ds.length ≤ nv) (R0 : RM L H μ M) (r : RDs L H μ vs ds) : RS L (startE nv ds) (L2.start N vs) H μ M := by
  have hl := r.length
  refine ⟨R0, ⟨?_, fun i d h => ?_⟩⟩
  · unfold startE L2.start
    rw [List.length_append, List.length_append, List.length_map, List.length_map, List.length_replicate, List.length_replicate]
    omega
  · unfold startE at h
    by_cases hi : i < ds.length
    · rw [List.getElem?_append_left (by rw [List.length_map]; exact hi), List.getElem?_map] at h
      cases e : ds[i]? with
      | none => rw [e] at h; cases h
      | some d' =>
        rw [e] at h
        cases h
        obtain ⟨v, h1, h2⟩ := r.get e
        refine ⟨v, ?_, h2⟩
        unfold L2.start
        rw [List.getElem?_append_left (by rw [List.length_map]; omega), List.getElem?_map, h1]
        rfl
    · rw [List.getElem?_append_right (by rw [List.length_map]; omega), List.getElem?_replicate] at h
      split at h <;> cases h
/-- a def whose body does what evSs tells -/
theorem does_of {x qual : Str} {params : Arguments} {body : List Stmt} {scope : Scope} {dvs : List V} {kws : List (Str × V)} {N : List Str} {F : Fns} {d : FD} (FD0 : FunD L.K x qual params body scope dvs kws f fd) (S : FnScope N ps scope) (hN : N.length = d.nv) (hps : ps.length = d.np)
    (hbody : ∀ (cdv : Value) (A : Around) (outer : List PySem.Env) (s : Shared) (H : Hp) (E : XK), Room k (A.deeper (envOfC qual scope s.heap.objs.size f cdv)) → (A.deeper (envOfC qual scope s.heap.objs.size f cdv)).guards = some [] →
      PSs (cxOf (CX P w) P w L.K mg base N qual scope f cdv A outer s H E) body (TSsx L F (fun c dd _ H => E c dd H) d.body)) :
    DoesG P w L mg base (k + 1) f fd ps (bodyR F d) := by
  obtain ⟨oc, od, dV, kV, doc, pm, an, cdv, ct, osl, rfl, lk, hcd, _, _⟩ := FD0.ex
  intro A outer s H args us vs Q E hr hg e0 hl hb r hsp
  obtain ⟨ds, M, μ, R0, rd, q⟩ := hsp
  unfold bodyR at q
  obtain ⟨⟨c1, c2⟩, q⟩ := Mi.ite_ok q
  have KX : L.K.In s.heap := e0.mod.kin.keeps fun b o e => (e0.bs b o e).1
  have lim : s.heap.NoLimit := e0.mod.nolimit.keeps fun b o e => (e0.bs b o e).1
  have hkind : ∀ y ∈ ps.zip us, scope.names.lookup y.1 = some .local ∨ (scope.names.lookup y.1 = some .cell ∧ ((cellsFrom (s.heap.objs.size + 1) scope.names []).lookup y.1).isSome = true) := fun ⟨n, v⟩ hy => by
    rcases S.par n (List.of_mem_zip hy).1 with q | q
    · exact .inl q
    · exact .inr ⟨q, PySem.W.cellsFrom_some _ _ _ (.inl q)⟩
  refine codeAny_call_function hr.depth (KX _ _ lk) rfl S.co S.gen rfl (PySem.W.codeRec_of KX hcd) (hb _ _ _ _ ?_)
  refine wpAny_newFunctionEnv_cells S.kind hkind fun env he s1 x => ?_
  subst he
  refine ⟨lim.keeps x.toInCall.keep, codeAny_func ?_⟩
  have I : Inv (cxOf (CX P w) P w L.K mg base N qual scope f cdv A outer s H E) [] (L2.start N vs) H s1 := inv_start S hr.hd e0 hl r x
  have S0 : RS L (startE d.nv ds) (L2.start N vs) H μ M := start_rs hN (by omega) R0 rd
  have hq : TSsx L F (fun c dd _ H => E c dd H) d.body { nx := fun _ H' => Q .non H', rt := Q } (L2.start N vs) H := by
    refine ⟨_, M, μ, S0, ?_⟩
    revert q
    cases evSs F d.body (startE d.nv ds) M with
    | nx ρ M1 => exact fun q σ H' μ' e S' => q .non H' μ' e S'.m .non
    | ret v M1 => exact id
    | brk ρ M1 => exact fun q => q.elim
    | cnt ρ M1 => exact fun q => q.elim
    | ex x ρ M1 => exact fun q σ H' μ' c dd e S' rx => q H' μ' c dd e S'.m rx
    | bad => exact id
  refine wpAny_mono ((hbody cdv A outer s H E (hr.deeper _) hg).run [] s1 _ H _ I hq) (fun fl s' hs => ?_) fun e s' hs => hs
  cases fl with
  | ret u =>
    obtain ⟨v, σ', H', J, rv, q⟩ := hs
    exact ⟨v, H', J.os, J.bare, J.base, J.hok, rv, q⟩
  | next =>
    obtain ⟨σ', H', J, q⟩ := hs
    exact ⟨.non, H', J.os, J.bare, J.base, J.hok, rfl, q⟩
  | brk =>
    obtain ⟨_, _, _, q⟩ := hs
    exact False.elim q
  | cont =>
    obtain ⟨_, _, _, q⟩ := hs
    exact False.elim q
/-- f(e, ..) of a def -/
theorem te_call {X : Cx} {F : Fns} {W : WX} {i : Nat} {x : Str} {p pos : Pos} {e : Expr} {es : List Expr} {cs : Es} (hK : X.K = L.K) (tk : Takes X W) (G : DoesG X.prog X.w L X.mg X.base k f fd ps (F i)) (hr : Room k X.A) (hg : X.A.guards = some []) (hb : Binds X.K fd ps []) (hgl : Gl X x) (hm : X.mg x = some (.ref f)) (hk : PySem.W.keepIn X.K (.ref f) = true)
    (ha : PA X (e :: es) (TAx L F W cs)) (hR : ∀ ds M, F i ds M ≠ .bad → ds.length = ps.length) (hdb : (x == ("__debug__" : Str)) = false) (he : starEach (e :: es) X.env = (false, eval e X.env) :: starEach es X.env) (hpl : (backTo pos (starEach es X.env)).any (·.1) = false) :
    PE X (.Call (.Name x p) (e :: es) [] pos) (TEx L F W (.call i cs)) := by
  refine ⟨fun pins s σ H Q I ⟨ρ, M, μ, S, h⟩ => ?_⟩
  refine wpAny_Call_Name_kw (ld_glob I hgl hm ?_ hdb)
  refine PySem.W.callWith_K (h₀ := X.base) I.ok.mod.kin hk (thn (ha.run pos pins s σ H (fun vs H1 => ∃ ds M1 μ1, RM L H1 μ1 M1 ∧ RDs L H1 μ1 vs ds ∧ Tq (RD L) L H1 μ1 (F i ds M1) (wX L W σ H1 μ1) Q) I (TAx.first S h fun xs H1 μ1 M1 ds e1 S1 rs h1 => ⟨ds, M1, μ1, S1.m, rs, h1⟩)) fun us s1 ⟨vs, H1, I1, r, ds, M1, μ1, R1, rd, q⟩ => ⟨I1.kIn, ?_⟩) he hpl
  refine run_G hK tk G hr hg hb I1 r ?_ R1 rd q
  rw [rd.length]
  exact hR ds M1 fun z => by
    rw [z] at q
    exact q
theorem te_call0 {X : Cx} {F : Fns} {W : WX} {i : Nat} {x : Str} {p pos : Pos} (hK : X.K = L.K) (tk : Takes X W) (G : DoesG X.prog X.w L X.mg X.base k f fd ps (F i)) (hr : Room k X.A) (hg : X.A.guards = some []) (hb : Binds X.K fd ps []) (hgl : Gl X x) (hm : X.mg x = some (.ref f)) (hk : PySem.W.keepIn X.K (.ref f) = true)
    (hR : ∀ ds M, F i ds M ≠ .bad → ds.length = ps.length) (hdb : (x == ("__debug__" : Str)) = false) : PE X (.Call (.Name x p) [] [] pos) (TEx L F W (.call i .nil)) := by
  refine ⟨fun pins s σ H Q I ⟨ρ, M, μ, S, h⟩ => ?_⟩
  refine wpAny_Call_Name_kw (ld_glob I hgl hm ?_ hdb)
  have h : Tq (RD L) L H μ (F i [] M) (wX L W σ H μ) Q := h
  refine PySem.W.callWith_K0 I.kIn hk (run_G (us := []) hK tk G hr hg hb I .nil ?_ S.m .nil h)
  exact hR [] M fun z => by
    rw [z] at h
    exact h
end
end Mi
end
section
set_option Elab.async false
set_option linter.all false
set_option maxRecDepth 100000
set_option maxHeartbeats 1000000
set_option exponentiation.threshold 20000
/-! MiM2: a call sees nothing but what it is handed. -/
namespace Mi
open PySem PySem.Spec PyProof.Rows L2
section
variable {L : Place}
mutual
theorem RD.pure {H H' : Hp} {μ μ' : List Addr} (h0 : Keeps H H') : ∀ {d : D} {v : V}, pureD d = true → RD L H μ v d → RD L H' μ' v d
  | .non, _, _, h => by cases h; exact .non
  | .bl _, _, _, h => by cases h; exact .bl _
  | .int _, _, _, h => by cases h; exact .int _
  | .str _, _, _, h => by cases h; exact .str _
  | .tup ds, _, p, h => by
    cases h with
    | tup s r => exact .tup (h0.tup s) (RDs.pure h0 p r)
  | .pr ds, _, p, h => absurd p Bool.false_ne_true
  | .rol ds, _, p, h => by
    cases h with
    | rol s r => exact .rol (h0.sqF s) (RDs.pure h0 p r)
  | .obj _, _, p, h => absurd p Bool.false_ne_true
  | .fn _, _, _, h => by cases h; exact .fn _
  | .ty _, _, _, h => by cases h; exact .ty _
theorem RDs.pure {H H' : Hp} {μ μ' : List Addr} (h0 : Keeps H H') : ∀ {ds : List D} {vs : List V}, pureL ds = true → RDs L H μ vs ds → RDs L H' μ' vs ds
  | [], _, _, h => by cases h; exact .nil
  | d :: ds, _, p, h => by
    obtain ⟨p1, p2⟩ := Bool.and_eq_true_iff.mp (show (pureD d && pureL ds) = true from p)
    cases h with
    | cons a b => exact .cons (RD.pure h0 p1 a) (RDs.pure h0 p2 b)
end
theorem keeps_ext {H H' : Hp} {μ μ' : List Addr} {M : Mem} (R : RM L H μ M) (x : Ext H μ H' μ') : Keeps H H' := fun a o h n => x.keep a o h (R.off h n)
theorem Keeps.refl {H : Hp} : Keeps H H := fun _ _ h _ => h
/-- the handed lists -/
theorem roots_ok {H : Hp} {μ : List Addr} {M : Mem} (R : RM L H μ M) : ∀ {ds : List D} {vs : List V} {as : List Nat} (n : Nat) (μ0 : List Addr), roots ds M = some as → RDs L H μ vs ds → (∀ (i a : Nat), as[i]? = some a → ∀ b, μ[a]? = some b → μ0[n + i]? = some b) →
    RDs L H μ0 vs (renA n ds) ∧ ∀ a ∈ as, ∃ xs, M[a]? = some (.lst xs) ∧ pureL xs = true
  | [], _, as, n, μ0, h, r, _ => by
    cases h
    cases r
    exact ⟨.nil, fun a ha => (nomatch ha)⟩
  | d :: ds, _, as, n, μ0, h, r, hm => by
    cases r with
    | @cons v _ vs _ rv rs =>
      have other : pureD d = true → roots ds M = some as → renA n (d :: ds) = d :: renA n ds → RDs L H μ0 (v :: vs) (renA n (d :: ds)) ∧ ∀ a ∈ as, ∃ xs, M[a]? = some (.lst xs) ∧ pureL xs = true := fun p h2 e => by
        obtain ⟨h3, h4⟩ := roots_ok R n μ0 h2 rs hm
        rw [e]
        exact ⟨.cons (rv.pure Keeps.refl p) h3, h4⟩
      cases d with
      | obj a =>
        have h : (match M[a]? with
          | some (.lst xs) => if pureL xs = true then (roots ds M).map (a :: ·) else none
          | _ => none) = some as := h
        split at h
        · rename_i xs e
          split at h
          · rename_i p
            obtain ⟨as', h2, rfl⟩ := Option.map_eq_some_iff.mp h
            obtain ⟨h3, h4⟩ := roots_ok R (n + 1) μ0 h2 rs fun i b hi c hc => by
              have := hm (i + 1) b (by simpa using hi) c hc
              rw [show n + 1 + i = n + (i + 1) by omega]
              exact this
            cases rv with
            | @obj _ b hb =>
              refine ⟨.cons (.obj ?_) h3, fun c hc => ?_⟩
              · exact hm 0 a (by simp) b hb
              · rcases List.mem_cons.mp hc with rfl | hc
                · exact ⟨xs, e, p⟩
                · exact h4 c hc
          · cases h
        · cases h
      | pr xs => exact absurd (show (if pureD (.pr xs) = true then roots ds M else none) = some as from h) (by rw [if_neg (show ¬ pureD (.pr xs) = true from Bool.false_ne_true)]; simp)
      | non => exact other rfl h rfl
      | bl b => exact other rfl h rfl
      | int i => exact other rfl h rfl
      | str x => exact other rfl h rfl
      | fn f => exact other rfl h rfl
      | ty t => exact other rfl h rfl
      | tup xs =>
        have h : (if pureD (.tup xs) = true then roots ds M else none) = some as := h
        split at h
        · rename_i p; exact other p h rfl
        · cases h
      | rol xs =>
        have h : (if pureD (.rol xs) = true then roots ds M else none) = some as := h
        split at h
        · rename_i p; exact other p h rfl
        · cases h
theorem putB_get : ∀ {as : List Nat} {j : Nat} {M' M M2 : Mem}, putB as j M' M = some M2 → as.Nodup → (∀ a ∈ as, a < M.length) → M2.length = M.length ∧ (∀ n, n ∉ as → M2[n]? = M[n]?) ∧ ∀ (i a : Nat), as[i]? = some a → ∃ xs, M2[a]? = some (.lst xs) ∧ M'[j + i]? = some (.lst xs) ∧ pureL xs = true
  | [], _, _, _, _, h, _, _ => by
    cases h
    exact ⟨rfl, fun _ _ => rfl, fun i a h => by simp at h⟩
  | a :: as, j, M', M, M2, h, nd, hl => by
    have h : (match M'[j]? with
      | some (.lst xs) => if pureL xs = true then putB as (j + 1) M' (M.set a (.lst xs)) else none
      | _ => none) = some M2 := h
    split at h
    · rename_i xs e
      split at h
      · rename_i p
        obtain ⟨n1, n2⟩ := List.nodup_cons.mp nd
        obtain ⟨l1, l2, l3⟩ := putB_get h n2 fun b hb => by rw [List.length_set]; exact hl b (List.mem_cons_of_mem _ hb)
        refine ⟨by rw [l1, List.length_set], fun n hn => ?_, fun i b hi => ?_⟩
        · simp only [List.mem_cons, not_or] at hn
          rw [l2 n hn.2, List.getElem?_set_ne (Ne.symm hn.1)]
        · cases i with
          | zero =>
            simp at hi
            subst hi
            refine ⟨xs, ?_, e, p⟩
            rw [l2 a n1, List.getElem?_set_self (hl a List.mem_cons_self)]
          | succ i =>
            obtain ⟨ys, h1, h2, h3⟩ := l3 i b (by simpa using hi)
            exact ⟨ys, h1, by rw [show j + (i + 1) = j + 1 + i by omega]; exact h2, h3⟩
      · cases h
    · cases h
/-- behind the call, the caller's memory -/
theorem back_rm {H H' : Hp} {μ μ' : List Addr} {M M' M2 : Mem} {as : List Nat} (R : RM L H μ M) (nd : as.Nodup) (hl : ∀ a ∈ as, a < M.length) (x : Ext H (as.map fun a => μ.getD a 0) H' μ') (R' : RM L H' μ' M') (e : putB as 0 M' M = some M2) : Ext H μ H' μ ∧ RM L H' μ M2 := by
  obtain ⟨l1, l2, l3⟩ := putB_get e nd hl
  have at_ : ∀ {a : Nat}, a < M.length → μ[a]? = some (μ.getD a 0) := fun {a} h => by
    have h' : a < μ.length := by rw [R.len]; exact h
    simp [List.getD, h']
  have mem : ∀ b, b ∈ (as.map fun a => μ.getD a 0) → b ∈ μ := fun b hb => by
    obtain ⟨a, ha, rfl⟩ := List.mem_map.mp hb
    exact List.mem_of_getElem? (at_ (hl a ha))
  have x2 : Ext H μ H' μ := ⟨⟨[], by simp⟩, fun a o h n => x.keep a o h fun z => n (mem a z), fun a h n => absurd h n⟩
  have hk := keeps_ext R x2
  refine ⟨x2, ⟨by rw [l1]; exact R.len, R.nd, fun n a o h1 h2 => ?_⟩⟩
  by_cases hn : n ∈ as
  · obtain ⟨i, hi, ei⟩ := List.getElem_of_mem hn
    obtain ⟨xs, g1, g2, g3⟩ := l3 i n (by rw [List.getElem?_eq_getElem hi, ei])
    rw [g1] at h2
    cases h2
    have e0 : (as.map fun a => μ.getD a 0)[i]? = some a := by
      rw [List.getElem?_map, List.getElem?_eq_getElem hi, ei]
      have := at_ (hl n hn)
      rw [h1] at this
      rw [Option.map_some, ← Option.some.inj this]
    have e1 := x.get e0
    rw [Nat.zero_add] at g2
    obtain ⟨ys, hy, ry⟩ := R'.at_ i a _ e1 g2
    exact ⟨ys, hy, ry.pure Keeps.refl g3⟩
  · rw [l2 n hn] at h2
    have q := R.at_ n a o h1 h2
    have hna : a ∉ (as.map fun a => μ.getD a 0) := fun z => by
      obtain ⟨b, hb, eb⟩ := List.mem_map.mp z
      have hb' := at_ (hl b hb)
      rw [eb] at hb'
      have : b = n := by
        have l1 := (List.getElem?_eq_some_iff.mp hb')
        have l2 := (List.getElem?_eq_some_iff.mp h1)
        exact (List.getElem_inj R.nd).mp (l1.2.trans l2.2.symm)
      exact hn (this ▸ hb)
    cases o with
    | lst ds =>
      obtain ⟨ys, hy, ry⟩ := q
      exact ⟨ys, x.keep a _ hy hna, ry.move hk fun _ _ z => z⟩
    | dct => exact q.elim
theorem iso_prm {R : List D → Mem → Res D} {vs : List V} {H : Hp} {Q : VK} {E : XK} (h : Prm L (iso R) vs H Q E) : Prm L R vs H Q E := by
  obtain ⟨ds, M, μ, R0, rd, q⟩ := h
  unfold iso at q
  split at q
  · rename_i as hr
    split at q
    · rename_i nd
      split at q
      · rename_i r hb
        obtain ⟨rd0, hc⟩ := roots_ok R0 0 (as.map fun a => μ.getD a 0) hr rd fun i a hi b hb => by
          rw [Nat.zero_add, List.getElem?_map, hi]
          simp [List.getD, hb]
        have hl : ∀ a ∈ as, a < M.length := fun a ha => by
          obtain ⟨xs, e, _⟩ := hc a ha
          exact (List.getElem?_eq_some_iff.mp e).1
        have at_ : ∀ {a : Nat}, a ∈ as → μ[a]? = some (μ.getD a 0) := fun {a} ha => by
          have h' : a < μ.length := by rw [R0.len]; exact hl a ha
          simp [List.getD, h']
        have R1 : RM L H (as.map fun a => μ.getD a 0) (subM as M) := by
          refine ⟨by unfold subM; simp, ?_, fun n a o h1 h2 => ?_⟩
          · refine List.Pairwise.map _ ?_ (List.Pairwise.and_mem.mp nd)
            rintro a b ⟨ha, hb, hne⟩ e
            have h1 := at_ ha
            have h2 := at_ hb
            rw [e] at h1
            have l1 := (List.getElem?_eq_some_iff.mp h1)
            have l2 := (List.getElem?_eq_some_iff.mp h2)
            exact hne ((List.getElem_inj R0.nd).mp (l1.2.trans l2.2.symm))
          · rw [List.getElem?_map] at h1
            unfold subM at h2
            rw [List.getElem?_map] at h2
            cases e : as[n]? with
            | none => rw [e] at h1; cases h1
            | some k =>
              rw [e] at h1 h2
              have hk := List.mem_of_getElem? e
              obtain ⟨xs, e1, p⟩ := hc k hk
              rw [Option.map_some, e1] at h2
              cases h2
              rw [Option.map_some] at h1
              cases h1
              obtain ⟨ys, hy, ry⟩ := R0.at_ k _ _ (at_ hk) e1
              exact ⟨ys, hy, ry.pure Keeps.refl p⟩
        refine ⟨renA 0 ds, subM as M, as.map fun a => μ.getD a 0, R1, rd0, ?_⟩
        revert hb
        cases e : R (renA 0 ds) (subM as M) with
        | bad =>
          intro hb
          have hb : some Res.bad = some r := hb
          cases hb
          exact q
        | ex x M' =>
          intro hb
          intro H' μ' c dd ex R' rx
          simp only [backR] at hb
          split at hb
          · rename_i hv
            obtain ⟨M2, e2, rfl⟩ := Option.map_eq_some_iff.mp hb
            obtain ⟨x2, R2⟩ := back_rm R0 nd hl ex R' e2
            exact q H' μ c dd x2 R2 ⟨rx.cl, fun d hd => by rw [hv] at hd; cases hd⟩
          · rename_i d hv
            split at hb
            · rename_i p
              obtain ⟨M2, e2, rfl⟩ := Option.map_eq_some_iff.mp hb
              obtain ⟨x2, R2⟩ := back_rm R0 nd hl ex R' e2
              refine q H' μ c dd x2 R2 ⟨rx.cl, fun d' hd => ?_⟩
              rw [hv] at hd
              cases hd
              obtain ⟨fld, a, fs, v, h1, h2, h3, h4, h5⟩ := rx.val d hv
              exact ⟨fld, a, fs, v, h1, h2, h3, h4, h5.pure Keeps.refl p⟩
            · cases hb
        | ok d M' =>
          intro hb v H' μ' ex R' rv
          simp only [backR] at hb
          split at hb
          · rename_i p
            obtain ⟨M2, e2, rfl⟩ := Option.map_eq_some_iff.mp hb
            obtain ⟨x2, R2⟩ := back_rm R0 nd hl ex R' e2
            exact q v H' μ x2 R2 (rv.pure Keeps.refl p)
          · split at hb
            · rename_i j _
              split at hb
              · rename_i hj
                split at hb
                · rename_i ys ey
                  split at hb
                  · rename_i p
                    obtain ⟨M2, e2, rfl⟩ := Option.map_eq_some_iff.mp hb
                    obtain ⟨x2, R2⟩ := back_rm R0 nd hl ex R' e2
                    cases rv with
                    | @obj _ B hB =>
                      obtain ⟨zs, hz, rz⟩ := R'.at_ j B _ hB ey
                      have hn0 : B ∉ (as.map fun a => μ.getD a 0) := fun z => by
                        obtain ⟨i, hi, ei⟩ := List.getElem_of_mem z
                        have h1 := ex.get (show (as.map fun a => μ.getD a 0)[i]? = some B by rw [List.getElem?_eq_getElem hi, ei])
                        have l1 := (List.getElem?_eq_some_iff.mp h1)
                        have l2 := (List.getElem?_eq_some_iff.mp hB)
                        have : i = j := (List.getElem_inj R'.nd).mp (l1.2.trans l2.2.symm)
                        rw [List.length_map] at hi
                        omega
                      have hBn : H B = none := ex.new B (List.mem_of_getElem? hB) hn0
                      obtain ⟨a1, a2, a3⟩ := adopt R2 hz (rz.pure Keeps.refl p) (R0.free hBn) x2 hBn
                      exact q _ H' _ a1 a2 a3
                  · cases hb
                · cases hb
              · cases hb
            · cases hb
      · exact ⟨ds, M, μ, R0, rd, q⟩
    · exact ⟨ds, M, μ, R0, rd, q⟩
  · exact ⟨ds, M, μ, R0, rd, q⟩
theorem DoesG.iso {P : Program} {w : World} {mg : Str → Option Value} {base : Heap} {k : Nat} {f : Addr} {fd : FuncData} {ps : List Str} {R : List D → Mem → Res D} (G : DoesG P w L mg base k f fd ps R) : DoesG P w L mg base k f fd ps (Mi.iso R) :=
  fun A outer s H args us vs Q E h1 h2 h3 h4 h5 h6 h7 => G A outer s H args us vs Q E h1 h2 h3 h4 h5 h6 (iso_prm h7)
end
end Mi
end
section
set_option Elab.async false
set_option linter.all false
set_option maxRecDepth 100000
set_option maxHeartbeats 1000000
set_option exponentiation.threshold 20000
/-! MiN: the text of a def turned into the small Python. -/
namespace Mi
open PySem PySem.Spec PyProof.Rows L2
/-- what a module's name stands for: a def and its number of parameters, a datum -/
inductive G where
  | fn (i np : Nat) | con (d : D)
abbrev Tab := List (Str × G)
/-- where an expression stands: all names, the scope that runs, the scope as written -/
structure Cn where
  N : List Str
  sc : Scope
  wr : Scope
def ixOf (x : Str) : List Str → Option Nat
  | [] => none
  | y :: r => if x = y then some 0 else (ixOf x r).map (· + 1)
def plainE : Expr → Bool
  | .Starred _ _ => false
  | _ => true
def isSlice : Expr → Bool
  | .Slice _ _ _ _ => true
  | _ => false
def isSetD : Expr → Bool
  | .Set _ _ _ => true
  | _ => false
def isComp : Expr → Bool
  | .ListComp _ _ _ _ => true
  | .SetComp _ _ _ _ => true
  | .DictComp _ _ _ _ _ => true
  | _ => false
def isCall : Expr → Bool
  | .Call _ _ _ _ => true
  | _ => false
/-- no call without arguments (super() is one) -/
def baseOk : Expr → Bool
  | .Call _ [] _ _ => false
  | _ => true
def isTup : Expr → Bool
  | .Tuple _ _ _ => true
  | _ => false
/-- asked for its truth as a value -/
def valTest : Expr → Bool
  | .UnaryOp .Not _ _ => false
  | .BoolOp _ _ _ => false
  | .IfExp _ _ _ _ => false
  | .Compare _ _ _ _ => false
  | _ => true
def bltOf (x : Str) : Option BF :=
  if x = "len" then some .len else if x = "abs" then some .abs else if x = "int" then some .int else if x = "tuple" then some .tuple else if x = "list" then some .list
  else if x = "sum" then some .sum else if x = "max" then some .max else if x = "min" then some .min else if x = "all" then some .all else if x = "any" then some .any
  else if x = "repr" then some .repr else none
def isaOf (x : Str) : Option BF :=
  if x = "int" then some .isInt else if x = "bool" then some .isBool else if x = "tuple" then some .isTuple else if x = "str" then some .isStr else if x = "list" then some .isList else if x = "dict" then some .isDict else none
def mthOf (x : Str) : Option MF := if x = "append" then some .append else if x = "count" then some .count else none
/-- the built-in names that no def of the module may take -/
def bltNames : List Str := ["len", "abs", "int", "tuple", "list", "sum", "max", "min", "all", "any", "repr", "isinstance", "bool", "str", "dict", "range", "enumerate", "zip"]
def isGlob (cn : Cn) (x : Str) : Bool := cn.sc.names.lookup x == some .globalImplicit && !(x == ("__debug__" : Str))
def isVis (cn : Cn) (x : Str) : Bool := (cn.sc.names.lookup x == some .local || cn.sc.names.lookup x == some .cell || cn.sc.names.lookup x == some .free) && !(x == ("__debug__" : Str)) && !(x == ("__classdict__" : Str))
def isSto (cn : Cn) (x : Str) : Bool := cn.wr.names.lookup x == some .local || cn.wr.names.lookup x == some .cell
section
variable (tab : Tab)
def isBlt (cn : Cn) (x : Str) : Bool := isGlob cn x && (tab.lookup x).isNone
def varE (cn : Cn) (x : Str) : Option E :=
  if isVis cn x = true then (ixOf x cn.N).map .var
  else if isGlob cn x = true then (match tab.lookup x with
    | some (.con d) => some (.con d)
    | _ => none) else none
def conE : Const → Option E
  | .none => some (.con .non)
  | .bool b => some (.con (.bl b))
  | .int i => some (.con (.int i))
  | .str s => some (.con (.str s))
  | _ => none
def listE (f : Expr → Option E) : List Expr → Option Es
  | [] => some .nil
  | e :: r => if plainE e = true then (f e).bind fun c => (listE f r).map fun cs => .cons c cs else none
def boolE (f : Expr → Option E) (op : BoolOp) (p : Pos) : List Expr → Option E
  | [] => none
  | [a] => f a
  | a :: b :: r => (f a).bind fun ca => (f (.BoolOp op (b :: r) p)).map fun cb => match op with
    | .And => .and ca cb
    | .Or => .or ca cb
def boolT (g f : Expr → Option E) (op : BoolOp) (p : Pos) : List Expr → Option E
  | [] => none
  | [a] => g a
  | a :: b :: r => (g a).bind fun ca => (f (.BoolOp op (b :: r) p)).map fun cb => match op with
    | .And => .and ca cb
    | .Or => .or ca cb
def cmpE (f : Expr → Option E) (a : Expr) : List CmpOp → List Expr → Option E
  | [op], [b] => if behindInMarks op b = false then (f a).bind fun ca => (f b).map fun cb => .cmp op ca cb else none
  | [op, op'], [b, c] => if lastMarks [op, op'] [b, c] = false then (f a).bind fun ca => (f b).bind fun cb => (f c).map fun cc => .chn op op' ca cb cc else none
  | _, _ => none
def stepK : Expr → Bool
  | .UnaryOp .USub (.Constant (.int 1) _ _) _ => true
  | _ => false
def sliceE (f : Expr → Option E) (a : Expr) (lo hi st : Option Expr) : Option E :=
  match lo, hi, st with
  | none, none, none => (f a).map .slcA
  | some l, none, none => (f a).bind fun ca => (f l).map fun cl => .slcF ca cl
  | none, some h, none => (f a).bind fun ca => (f h).map fun ch => .slcT ca ch
  | some l, some h, none => (f a).bind fun ca => (f l).bind fun cl => (f h).map fun ch => .slcB ca cl ch
  | none, none, some k => if stepK k = true then (f a).map fun ca => .slc3 ca 2 else none
  | _, _, _ => none
def subE (f : Expr → Option E) (a b : Expr) : Option E :=
  match b with
  | .Slice lo hi st _ => sliceE f a lo hi st
  | b => (f a).bind fun ca => (f b).map fun cb => .idx ca cb
def isaE (f : Expr → Option E) (cn : Cn) (args : List Expr) : Option E :=
  match args with
  | [a, .Name y _] => if isBlt tab cn y = true ∧ plainE a = true then (isaOf y).bind fun b => (f a).map fun c => .blt b (.cons c .nil) else none
  | _ => none
def bltE (f : Expr → Option E) (cn : Cn) (x : Str) (args : List Expr) : Option E :=
  if x = "isinstance" then isaE tab f cn args
  else match args with
    | [] => none
    | a :: r => (bltOf x).bind fun b => (listE f (a :: r)).map fun cs => .blt b cs
def callE (f : Expr → Option E) (cn : Cn) (x : Str) (args : List Expr) : Option E :=
  if isGlob cn x = true then (match tab.lookup x with
    | some (.fn i _) => (listE f args).map fun cs => .call i cs
    | some _ => none
    | none => bltE tab f cn x args) else none
def attE (f : Expr → Option E) (o : Expr) (m : Str) (args : List Expr) (line : Bool) : Option E :=
  match args with
  | [] => none
  | a :: r => if line = true ∧ baseOk o = true ∧ r.length < 28 then (mthOf m).bind fun mf => (f o).bind fun co => (listE f (a :: r)).map fun cs => .mth mf co cs else none
def callsE (f : Expr → Option E) (cn : Cn) (fn : Expr) (args : List Expr) (kws : List Keyword) (p : Pos) : Option E :=
  match kws with
  | [] => (match fn with
    | .Name x _ => callE tab f cn x args
    | .Attribute o m ap => attE f o m args (ap.endLine == p.line)
    | _ => none)
  | _ => none
def targL (f : Expr → Option T) : List Expr → Option (List T)
  | [] => some []
  | e :: r => if plainE e = true then (f e).bind fun t => (targL f r).map fun ts => t :: ts else none
def targT (cn : Cn) : Nat → Expr → Option T
  | 0, _ => none
  | n + 1, e => match e with
    | .Name x _ => if isSto cn x = true then (ixOf x cn.N).map .nm else none
    | .Tuple es _ _ => (targL (targT cn n) es).map .tup
    | _ => none
def iterC (f : Expr → Option E) (tg : Expr) (x : Str) (args : List Expr) : Option It :=
  if x = "range" then (match args with
    | [a] => if plainE a = true then (f a).map .rng1 else none
    | [a, b] => if plainE a = true ∧ plainE b = true then (f a).bind fun ca => (f b).map fun cb => .rng2 ca cb else none
    | _ => none)
  else if isTup tg = true then (if x = "enumerate" then (match args with
      | [a] => if plainE a = true then (f a).map .enum else none
      | _ => none)
    else if x = "zip" then (match args with
      | [a, b] => if plainE a = true ∧ plainE b = true then (f a).bind fun ca => (f b).map fun cb => .zip ca cb else none
      | _ => none) else none)
  else none
/-- range, enumerate, zip by their own names -/
def iterN (cn : Cn) : Expr → Option (Str × List Expr)
  | .Call (.Name x _) args [] _ => if isBlt tab cn x = true ∧ (x = "range" ∨ x = "enumerate" ∨ x = "zip") then some (x, args) else none
  | _ => none
def iterE (f : Expr → Option E) (cn : Cn) (tg it : Expr) : Option It :=
  match iterN tab cn it with
  | some (x, args) => iterC f tg x args
  | none => (f it).map .val
def ownOf (N : List Str) (scope : Scope) : List (Str × Nat) := scope.names.filterMap fun y => if y.2 = .local ∨ y.2 = .cell then (ixOf y.1 N).map fun i => (y.1, i) else none
def lcE (f g : Cn → Expr → Option E) (cn : Cn) (elt : Expr) (scope : Scope) : List Comprehension → Option E
  | [⟨tg, it, ifs, a⟩] => if a = 0 ∧ isSetD it = false ∧ blkC cn.N cn.sc scope (ownOf cn.N scope) = true then
      (iterE tab (f cn) cn tg it).bind fun ci => (targT ⟨cn.N, relS scope cn.sc, scope⟩ 4 tg).bind fun t =>
        if (t.names.all fun i => ((ownOf cn.N scope).map (·.2)).contains i) = true then (f ⟨cn.N, relS scope cn.sc, scope⟩ elt).bind fun ce => (match ifs with
          | [] => some (.lc ce t ci ((ownOf cn.N scope).map (·.2)))
          | [c] => (g ⟨cn.N, relS scope cn.sc, scope⟩ c).map fun cc => .lci ce t ci cc ((ownOf cn.N scope).map (·.2))
          | _ => none) else none
    else none
  | _ => none
def stepE (f g : Cn → Expr → Option E) (cn : Cn) (e : Expr) : Option E :=
  match e with
  | .Name x _ => varE tab cn x
  | .Constant c _ _ => conE c
  | .BinOp a op b _ => (f cn a).bind fun ca => (f cn b).map fun cb => .bin op ca cb
  | .UnaryOp op a _ => (match op with
    | .USub => (f cn a).map .neg
    | .Not => (f cn a).map fun c => .not (.tst c)
    | _ => none)
  | .Compare a ops cs _ => cmpE (f cn) a ops cs
  | .BoolOp op vs p => boolE (f cn) op p vs
  | .IfExp c a b _ => (g cn c).bind fun cc => (f cn a).bind fun ca => (f cn b).map fun cb => .ite cc ca cb
  | .Tuple es _ _ => (listE (f cn) es).map .tup
  | .List es _ => (listE (f cn) es).map .lst
  | .Subscript a b _ => subE (f cn) a b
  | .Call fn args kws p => callsE tab (f cn) cn fn args kws p
  | .ListComp elt gs scope _ => lcE tab f g cn elt scope gs
  | _ => none
def stepT (f g : Cn → Expr → Option E) (cn : Cn) (e : Expr) : Option E :=
  match e with
  | .UnaryOp op a p => (match op with
    | .Not => (g cn a).map .not
    | _ => (f cn (.UnaryOp op a p)).map .tst)
  | .BoolOp op vs p => boolT (g cn) (g cn) op p vs
  | .IfExp c a b _ => (g cn c).bind fun cc => (g cn a).bind fun ca => (g cn b).map fun cb => .ite cc ca cb
  | .Compare a ops cs _ => cmpE (f cn) a ops cs
  | e => (f cn e).map .tst
mutual
def compE : Nat → Cn → Expr → Option E
  | 0, _, _ => none
  | n + 1, cn, e => stepE tab (compE n) (compT n) cn e
def compT : Nat → Cn → Expr → Option E
  | 0, _, _ => none
  | n + 1, cn, e => stepT (compE n) (compT n) cn e
end
end
end Mi
end
section
set_option Elab.async false
set_option linter.all false
set_option maxRecDepth 100000
set_option maxHeartbeats 1000000
set_option exponentiation.threshold 20000
/-! MiO: what is compiled is what the text does: expressions. -/
namespace Mi
open PySem PySem.Spec PyProof.Rows L2
/-- a context for the compiled text -/
structure Wd (L : Place) (F : Fns) (tab : Tab) (cn : Cn) (X : Cx) : Prop where
  K : X.K = L.K
  calm : X.calm = true
  nd : X.N.Nodup
  N : X.N = cn.N
  sc : X.env.scope = cn.sc
  kind : cn.sc.kind = .function
  sto : ∀ x, isSto cn x = true → Loc cn.sc x ∧ (X.fn x = true ∨ cn.sc.names.lookup x = some .local)
  un : X.A.units + 65 < cLine
  gu : X.A.guards = some []
  fre : ∀ x ∈ bltNames, X.mg x = none
  con : ∀ x d, tab.lookup x = some (.con d) → ∃ v u, X.mg x = some u ∧ RelV v u ∧ ∀ H μ, RD L H μ v d
  fn : ∀ x i np, tab.lookup x = some (.fn i np) → ∃ k fd ps, X.mg x = some (.ref (L.fn i)) ∧ PySem.W.keepIn X.K (.ref (L.fn i)) = true ∧ DoesG X.prog X.w L X.mg X.base k (L.fn i) fd ps (F i) ∧ Room k X.A ∧ Binds X.K fd ps [] ∧ ∀ ds M, F i ds M ≠ .bad → ds.length = ps.length
theorem type_append : typeOf (.builtin "list.append") = pure (.type "method_descriptor") := by show builtinType _ = _; rw [builtinType_eq_fast]; kernel_rfl
theorem type_count : typeOf (.builtin "tuple.count") = pure (.type "method_descriptor") := by show builtinType _ = _; rw [builtinType_eq_fast]; kernel_rfl
variable {L : Place} {F : Fns} {tab : Tab}
theorem ixOf_get {x : Str} : ∀ {N : List Str} {i : Nat}, ixOf x N = some i → N[i]? = some x
  | [], _, h => by cases h
  | y :: r, i, h => by
    unfold ixOf at h
    split at h
    · rename_i e
      cases h
      rw [e]
      rfl
    · obtain ⟨j, h1, rfl⟩ := Option.map_eq_some_iff.mp h
      simpa using ixOf_get h1
theorem star_cons {e : Expr} {r : List Expr} {env : PySem.Env} (h : plainE e = true) : starEach (e :: r) env = (false, eval e env) :: starEach r env := by
  cases e <;> first
    | rfl
    | cases h
theorem star_one {e : Expr} {env : PySem.Env} (h : plainE e = true) : starEach [e] env = [(false, eval e env)] := star_cons h
theorem list_plain {f : Expr → Option E} {env : PySem.Env} {pos : Pos} : ∀ {es : List Expr} {cs : Es}, listE f es = some cs → (backTo pos (starEach es env)).any (·.1) = false ∧ (backTo pos (starEach es env)).all (fun x => !x.1) = true
  | [], _, _ => ⟨rfl, rfl⟩
  | e :: r, cs, h => by
    unfold listE at h
    split at h
    · rename_i hp
      obtain ⟨c, h1, h2⟩ := Option.bind_eq_some_iff.mp h
      obtain ⟨cs', h3, rfl⟩ := Option.map_eq_some_iff.mp h2
      obtain ⟨a, b⟩ := list_plain (env := env) (pos := pos) h3
      rw [star_cons hp]
      exact ⟨a, b⟩
    · cases h
/-- the expressions that f compiles are read rightly -/
def SndE (L : Place) (F : Fns) (tab : Tab) (f : Cn → Expr → Option E) : Prop := ∀ cn e c, f cn e = some c → ∀ X W, Wd L F tab cn X → Takes X W → PE X e (TEx L F W c)
def SndT (L : Place) (F : Fns) (tab : Tab) (f : Cn → Expr → Option E) : Prop := ∀ cn e c, f cn e = some c → ∀ X W, Wd L F tab cn X → Takes X W → PT X e (TTx L F W c)
section
variable {f g : Cn → Expr → Option E} {cn : Cn} {X : Cx} {W : WX} (wd : Wd L F tab cn X) (tk : Takes X W)
include wd
theorem Wd.glob {x : Str} (h : isGlob cn x = true) : Gl X x ∧ (x == ("__debug__" : Str)) = false := by
  unfold isGlob at h
  obtain ⟨h1, h2⟩ := Bool.and_eq_true_iff.mp h
  refine ⟨?_, by simpa using h2⟩
  show X.env.scope.names.lookup x = some .globalImplicit
  rw [wd.sc]
  exact eq_of_beq h1
theorem Wd.vis {x : Str} (h : isVis cn x = true) : Vis X.env.scope x ∧ (x == ("__debug__" : Str)) = false ∧ (x == ("__classdict__" : Str)) = false := by
  unfold isVis at h
  obtain ⟨h1, h2⟩ := Bool.and_eq_true_iff.mp h
  obtain ⟨h3, h4⟩ := Bool.and_eq_true_iff.mp h1
  refine ⟨?_, by simpa using h4, by simpa using h2⟩
  unfold Vis
  rw [wd.sc]
  rcases Bool.or_eq_true_iff.mp h3 with h5 | h5
  · rcases Bool.or_eq_true_iff.mp h5 with h6 | h6
    · exact .inl (eq_of_beq h6)
    · exact .inr (.inl (eq_of_beq h6))
  · exact .inr (.inr (eq_of_beq h5))
theorem snd_var {x : Str} {pos : Pos} {c : E} (h : varE tab cn x = some c) : PE X (.Name x pos) (TEx L F W c) := by
  unfold varE at h
  split at h
  · rename_i hv
    obtain ⟨i, h1, rfl⟩ := Option.map_eq_some_iff.mp h
    obtain ⟨a, b, d⟩ := wd.vis hv
    exact te_var (by rw [wd.N]; exact ixOf_get h1) a b d
  · split at h
    · rename_i hg
      split at h
      · rename_i d hd
        cases h
        obtain ⟨v, u, h1, h2, h3⟩ := wd.con x d hd
        obtain ⟨a, b⟩ := wd.glob hg
        exact te_con (pe_glob a h1 h2 b) h3
      · cases h
    · cases h
omit wd in
theorem snd_con {k : Const} {n : Nat} {pos : Pos} {c : E} (h : conE k = some c) : PE X (.Constant k n pos) (TEx L F W c) := by
  unfold conE at h
  split at h
  · cases h; exact te_con pe_non fun _ _ => .non
  · cases h; exact te_con pe_bl fun _ _ => .bl _
  · cases h; exact te_con pe_int fun _ _ => .int _
  · cases h; exact te_con pe_str fun _ _ => .str _
  · cases h
include tk
theorem snd_list (hf : SndE L F tab f) : ∀ {es : List Expr} {cs : Es}, listE (f cn) es = some cs → PA X es (TAx L F W cs)
  | [], _, h => by cases h; exact ta_nil
  | e :: r, cs, h => by
    unfold listE at h
    split at h
    · rename_i hp
      obtain ⟨c, h1, h2⟩ := Option.bind_eq_some_iff.mp h
      obtain ⟨cs', h3, rfl⟩ := Option.map_eq_some_iff.mp h2
      exact ta_cons (hf cn e c h1 X W wd tk) (snd_list hf h3) (star_cons hp)
    · cases h
theorem snd_bool (hf : SndE L F tab f) {op : BoolOp} {p : Pos} {vs : List Expr} {c : E} (h : boolE (f cn) op p vs = some c) : PE X (.BoolOp op vs p) (TEx L F W c) := by
  match vs, h with
  | [a], h => exact pe_one (hf cn a c h X W wd tk)
  | a :: b :: r, h =>
    obtain ⟨ca, h1, h2⟩ := Option.bind_eq_some_iff.mp h
    obtain ⟨cb, h3, h4⟩ := Option.map_eq_some_iff.mp h2
    have ha := hf cn a ca h1 X W wd tk
    have hb := hf cn _ cb h3 X W wd tk
    cases op with
    | And => cases h4; exact te_and ha hb
    | Or => cases h4; exact te_or ha hb
omit wd tk in
theorem pw_of_pt {op : BoolOp} {vs : List Expr} {p : Pos} {t : TT} (h : PT X (.BoolOp op vs p) t) : PW X (.BoolOp op vs p) t := ⟨fun wh pins s σ H Q I hw => by
  have q := h.run pins s σ H Q I hw
  rw [PySem.isTrue] at q ⊢
  exact q⟩
theorem snd_boolT (hg : SndT L F tab g) {op : BoolOp} {p : Pos} {vs : List Expr} {c : E} (h : boolT (g cn) (g cn) op p vs = some c) : PT X (.BoolOp op vs p) (TTx L F W c) := by
  match vs, h with
  | [a], h =>
    have ha := hg cn a c h X W wd tk
    cases op with
    | And => exact (pw_and1 ha).pt
    | Or => exact (pw_or1 ha).pt
  | a :: b :: r, h =>
    obtain ⟨ca, h1, h2⟩ := Option.bind_eq_some_iff.mp h
    obtain ⟨cb, h3, h4⟩ := Option.map_eq_some_iff.mp h2
    have ha := hg cn a ca h1 X W wd tk
    have hb := pw_of_pt (hg cn _ cb h3 X W wd tk)
    cases op with
    | And => cases h4; exact (tw_and ha hb).pt
    | Or => cases h4; exact (tw_or ha hb).pt
theorem snd_cmp (hf : SndE L F tab f) {a : Expr} {ops : List CmpOp} {cs : List Expr} {p : Pos} {c : E} (h : cmpE (f cn) a ops cs = some c) : PE X (.Compare a ops cs p) (TEx L F W c) ∧ PT X (.Compare a ops cs p) (TTx L F W c) := by
  unfold cmpE at h
  split at h
  · split at h
    · rename_i hm
      obtain ⟨ca, h1, h2⟩ := Option.bind_eq_some_iff.mp h
      obtain ⟨cb, h3, rfl⟩ := Option.map_eq_some_iff.mp h2
      have ha := hf cn _ ca h1 X W wd tk
      have hb := hf cn _ cb h3 X W wd tk
      exact ⟨te_cmp wd.K wd.un ha hb hm, tt_cmp wd.K wd.un ha hb hm⟩
    · cases h
  · split at h
    · rename_i hm
      obtain ⟨ca, h1, h2⟩ := Option.bind_eq_some_iff.mp h
      obtain ⟨cb, h3, h4⟩ := Option.bind_eq_some_iff.mp h2
      obtain ⟨cc, h5, rfl⟩ := Option.map_eq_some_iff.mp h4
      have ha := hf cn _ ca h1 X W wd tk
      have hb := hf cn _ cb h3 X W wd tk
      have hc := hf cn _ cc h5 X W wd tk
      exact ⟨te_chn wd.K wd.un ha hb hc hm, tt_chn wd.K wd.un ha hb hc hm⟩
    · cases h
  · cases h
theorem snd_sub (hf : SndE L F tab f) {a b : Expr} {p : Pos} {c : E} (h : subE (f cn) a b = some c) : PE X (.Subscript a b p) (TEx L F W c) := by
  unfold subE at h
  split at h
  · unfold sliceE at h
    split at h
    · obtain ⟨ca, h1, rfl⟩ := Option.map_eq_some_iff.mp h
      exact te_slcA wd.K (hf cn _ ca h1 X W wd tk)
    · obtain ⟨ca, h1, h2⟩ := Option.bind_eq_some_iff.mp h
      obtain ⟨cl, h3, rfl⟩ := Option.map_eq_some_iff.mp h2
      exact te_slcF wd.K (hf cn _ ca h1 X W wd tk) (hf cn _ cl h3 X W wd tk)
    · obtain ⟨ca, h1, h2⟩ := Option.bind_eq_some_iff.mp h
      obtain ⟨cl, h3, rfl⟩ := Option.map_eq_some_iff.mp h2
      exact te_slcT wd.K (hf cn _ ca h1 X W wd tk) (hf cn _ cl h3 X W wd tk)
    · obtain ⟨ca, h1, h2⟩ := Option.bind_eq_some_iff.mp h
      obtain ⟨cl, h3, h4⟩ := Option.bind_eq_some_iff.mp h2
      obtain ⟨ch, h5, rfl⟩ := Option.map_eq_some_iff.mp h4
      exact te_slcB wd.K (hf cn _ ca h1 X W wd tk) (hf cn _ cl h3 X W wd tk) (hf cn _ ch h5 X W wd tk)
    · split at h
      · rename_i hk
        obtain ⟨ca, h1, rfl⟩ := Option.map_eq_some_iff.mp h
        have ha := hf cn _ ca h1 X W wd tk
        unfold stepK at hk
        split at hk
        · exact te_back wd.K ha
        · cases hk
      · cases h
    · cases h
  · rename_i b' hb
    obtain ⟨ca, h1, h2⟩ := Option.bind_eq_some_iff.mp h
    obtain ⟨cb, h3, rfl⟩ := Option.map_eq_some_iff.mp h2
    refine te_idx wd.K (hf cn _ ca h1 X W wd tk) (hf cn _ cb h3 X W wd tk) ?_
    intro o i
    cases b <;> first
      | rfl
      | exact absurd rfl (hb _ _ _ _)
theorem snd_isa (hf : SndE L F tab f) {args : List Expr} {p pos : Pos} {c : E} (hg : isBlt tab cn "isinstance" = true) (h : isaE tab (f cn) cn args = some c) : PE X (.Call (.Name "isinstance" p) args [] pos) (TEx L F W c) := by
  unfold isaE at h
  split at h
  · rename_i a y py
    split at h
    · rename_i hc
      obtain ⟨b, h1, h2⟩ := Option.bind_eq_some_iff.mp h
      obtain ⟨ca, h3, rfl⟩ := Option.map_eq_some_iff.mp h2
      obtain ⟨gl, _⟩ := wd.glob (Bool.and_eq_true_iff.mp hg).1
      obtain ⟨gy, hd⟩ := wd.glob (Bool.and_eq_true_iff.mp hc.1).1
      have ha := hf cn _ ca h3 X W wd tk
      have key : ∀ T, y = Str.ofString T → T ∈ ["int", "bool", "tuple", "str", "list", "dict"] → isaT b = T → PE X (.Name y py) (tC (.ty (isaT b))) := fun T e1 hT e2 => by
        have hm : X.mg y = none := wd.fre y (by
          subst e1
          simp only [List.mem_cons, List.not_mem_nil, or_false] at hT
          rcases hT with rfl | rfl | rfl | rfl | rfl | rfl <;> decide +kernel)
        have hv : bootBuiltins y = some (.type T) := by
          subst e1
          simp only [List.mem_cons, List.not_mem_nil, or_false] at hT
          rcases hT with rfl | rfl | rfl | rfl | rfl | rfl <;> decide +kernel
        have hn : y ≠ "__name__" := by
          subst e1
          simp only [List.mem_cons, List.not_mem_nil, or_false] at hT
          rcases hT with rfl | rfl | rfl | rfl | rfl | rfl <;> decide +kernel
        exact pe_bltn gy hm hv (by rw [e2]; rfl) hn hd
      have fin : isaT b ≠ "" → PE X (.Name y py) (tC (.ty (isaT b))) → PE X (.Call (.Name "isinstance" p) [a, .Name y py] [] pos) (TEx L F W (.blt b (.cons ca .nil))) := fun hb hy =>
        te_isa wd.K hb gl (wd.fre _ (by decide +kernel)) ha hy (star_cons hc.2) (star_one rfl)
      unfold isaOf at h1
      split at h1
      · cases h1; rename_i e; exact fin (by decide) (key "int" e (by decide) rfl)
      · split at h1
        · cases h1; rename_i e; exact fin (by decide) (key "bool" e (by decide) rfl)
        · split at h1
          · cases h1; rename_i e; exact fin (by decide) (key "tuple" e (by decide) rfl)
          · split at h1
            · cases h1; rename_i e; exact fin (by decide) (key "str" e (by decide) rfl)
            · split at h1
              · cases h1; rename_i e; exact fin (by decide) (key "list" e (by decide) rfl)
              · split at h1
                · cases h1; rename_i e; exact fin (by decide) (key "dict" e (by decide) rfl)
                · cases h1
    · cases h
  · cases h
omit tk in
/-- a built-in function's rule -/
theorem blt_rule {x : Str} {b : BF} (h : bltOf x = some b) : x ∈ bltNames ∧ x ≠ "__name__" ∧ ((∃ id, bootBuiltins x = some (.builtin id) ∧ CallR X (.builtin id) (rBl L b)) ∨ ∃ T, bootBuiltins x = some (.type T) ∧ CallR X (.type T) (rBl L b)) := by
  unfold bltOf at h
  split at h
  · rename_i e; subst e; cases h; exact ⟨by decide +kernel, by decide +kernel, .inl ⟨"len", by decide +kernel, blt_len wd.K⟩⟩
  split at h
  · rename_i e; subst e; cases h; exact ⟨by decide +kernel, by decide +kernel, .inl ⟨"abs", by decide +kernel, blt_abs⟩⟩
  split at h
  · rename_i e; subst e; cases h; exact ⟨by decide +kernel, by decide +kernel, .inr ⟨"int", by decide +kernel, blt_int⟩⟩
  split at h
  · rename_i e; subst e; cases h; exact ⟨by decide +kernel, by decide +kernel, .inr ⟨"tuple", by decide +kernel, blt_tuple wd.K⟩⟩
  split at h
  · rename_i e; subst e; cases h; exact ⟨by decide +kernel, by decide +kernel, .inr ⟨"list", by decide +kernel, blt_list wd.K⟩⟩
  split at h
  · rename_i e; subst e; cases h; exact ⟨by decide +kernel, by decide +kernel, .inl ⟨"sum", by decide +kernel, blt_sum wd.K wd.calm⟩⟩
  split at h
  · rename_i e; subst e; cases h; exact ⟨by decide +kernel, by decide +kernel, .inl ⟨"max", by decide +kernel, blt_max wd.calm⟩⟩
  split at h
  · rename_i e; subst e; cases h; exact ⟨by decide +kernel, by decide +kernel, .inl ⟨"min", by decide +kernel, blt_min wd.calm⟩⟩
  split at h
  · rename_i e; subst e; cases h; exact ⟨by decide +kernel, by decide +kernel, .inl ⟨"all", by decide +kernel, blt_all wd.K wd.calm⟩⟩
  split at h
  · rename_i e; subst e; cases h; exact ⟨by decide +kernel, by decide +kernel, .inl ⟨"any", by decide +kernel, blt_any wd.K wd.calm⟩⟩
  split at h
  · rename_i e; subst e; cases h; exact ⟨by decide +kernel, by decide +kernel, .inl ⟨"repr", by decide +kernel, blt_repr wd.K wd.gu wd.un⟩⟩
  · cases h
theorem snd_blt (hf : SndE L F tab f) {x : Str} {args : List Expr} {p pos : Pos} {c : E} (hg : isBlt tab cn x = true) (h : bltE tab (f cn) cn x args = some c) : PE X (.Call (.Name x p) args [] pos) (TEx L F W c) := by
  unfold bltE at h
  split at h
  · rename_i e
    subst e
    exact snd_isa wd tk hf hg h
  · split at h
    · cases h
    · rename_i a r
      obtain ⟨b, h1, h2⟩ := Option.bind_eq_some_iff.mp h
      obtain ⟨cs, h3, rfl⟩ := Option.map_eq_some_iff.mp h2
      obtain ⟨hm, hn, hr⟩ := blt_rule wd h1
      obtain ⟨gl, hd⟩ := wd.glob (Bool.and_eq_true_iff.mp hg).1
      have ha := snd_list wd tk hf h3
      have hs : starEach (a :: r) X.env = (false, eval a X.env) :: starEach r X.env := by
        unfold listE at h3
        split at h3
        · rename_i hp; exact star_cons hp
        · cases h3
      have hp := (list_plain (env := X.env) (pos := pos) h3).1
      rw [hs] at hp
      have hp2 : (backTo pos (starEach r X.env)).any (·.1) = false := by
        have : ((false : Bool) || (backTo pos (starEach r X.env)).any (·.1)) = false := hp
        simpa using this
      rcases hr with ⟨id, hv, hc⟩ | ⟨T, hv, hc⟩
      · exact te_blt hc gl (wd.fre x hm) hv ha hn hd hs hp2
      · exact te_bltT hc gl (wd.fre x hm) hv ha hn hd hs hp2
theorem snd_call (hf : SndE L F tab f) {x : Str} {args : List Expr} {p pos : Pos} {c : E} (h : callE tab (f cn) cn x args = some c) : PE X (.Call (.Name x p) args [] pos) (TEx L F W c) := by
  unfold callE at h
  split at h
  · rename_i hgl
    split at h
    · rename_i i np ht
      obtain ⟨cs, h1, rfl⟩ := Option.map_eq_some_iff.mp h
      obtain ⟨k, fd, ps, a1, a2, a3, a4, a5, a6⟩ := wd.fn x i np ht
      obtain ⟨gl, hd⟩ := wd.glob hgl
      have ha := snd_list wd tk hf h1
      match args, h1, ha with
      | [], h1, ha =>
        cases h1
        exact te_call0 wd.K tk a3 a4 wd.gu a5 gl a1 a2 a6 hd
      | a :: r, h1, ha =>
        have hs : starEach (a :: r) X.env = (false, eval a X.env) :: starEach r X.env := by
          unfold listE at h1
          split at h1
          · rename_i hp; exact star_cons hp
          · cases h1
        have hp := (list_plain (env := X.env) (pos := pos) h1).1
        rw [hs] at hp
        have hp2 : (backTo pos (starEach r X.env)).any (·.1) = false := by
          have : ((false : Bool) || (backTo pos (starEach r X.env)).any (·.1)) = false := hp
          simpa using this
        exact te_call wd.K tk a3 a4 wd.gu a5 gl a1 a2 ha a6 hd hs hp2
    · cases h
    · rename_i ht
      exact snd_blt wd tk hf (by unfold isBlt; rw [hgl, ht]; rfl) h
  · cases h
omit wd tk in
theorem base_eq {o : Expr} {m : Str} {env : PySem.Env} {w : Sem Value} (h : baseOk o = true) : attributeBase o m env w = w := by
  cases o with
  | Call fn args kws pos =>
    cases args with
    | nil => cases h
    | cons a r => cases fn <;> rfl
  | _ => rfl
theorem snd_att (hf : SndE L F tab f) {o : Expr} {m : Str} {args : List Expr} {apos cpos : Pos} {c : E} (h : attE (f cn) o m args (apos.endLine == cpos.line) = some c) : PE X (.Call (.Attribute o m apos) args [] cpos) (TEx L F W c) := by
  unfold attE at h
  split at h
  · cases h
  · rename_i a r
    split at h
    · rename_i hc
      obtain ⟨mf, h1, h2⟩ := Option.bind_eq_some_iff.mp h
      obtain ⟨co, h3, h4⟩ := Option.bind_eq_some_iff.mp h2
      obtain ⟨cs, h5, rfl⟩ := Option.map_eq_some_iff.mp h4
      have ho := hf cn _ co h3 X W wd tk
      have ha := snd_list wd tk hf h5
      have hs : starEach (a :: r) X.env = (false, eval a X.env) :: starEach r X.env := by
        unfold listE at h5
        split at h5
        · rename_i hp; exact star_cons hp
        · cases h5
      have hpp := list_plain (env := X.env) (pos := cpos) h5
      have hp := hpp.1
      rw [hs] at hp
      have hp2 : (backTo cpos (starEach r X.env)).any (·.1) = false := by
        have : ((false : Bool) || (backTo cpos (starEach r X.env)).any (·.1)) = false := hp
        simpa using this
      have few : ((backTo cpos (starEach (a :: r) X.env)).all (fun x => !x.1) && (backToKw cpos (keywordEach [] X.env)).all (fun x => x.1.isSome)
          && decide ((a :: r).length + ([] : List Keyword).length + (if ([] : List Keyword).isEmpty then 0 else 1) < 30)) = true := by
        rw [hpp.2]
        have : (a :: r).length + ([] : List Keyword).length + (if ([] : List Keyword).isEmpty then 0 else 1) < 30 := by
          have := hc.2.2
          simp
          omega
        rw [decide_eq_true this]
        rfl
      unfold mthOf at h1
      split at h1
      · rename_i e
        subst e
        cases h1
        exact te_mth (m := .append) wd.K PySem.F.plainAttrs_list slot_list_append type_append mth_append ho ha (base_eq hc.2.1) few hc.1 hs hp2
      · split at h1
        · rename_i e
          subst e
          cases h1
          exact te_mth (m := .count) wd.K PySem.F.plainAttrs_tuple PySem.F.slot_tuple_count type_count (mth_count wd.K wd.un) ho ha (base_eq hc.2.1) few hc.1 hs hp2
        · cases h1
    · cases h
end
end Mi
end
section
set_option Elab.async false
set_option linter.all false
set_option maxRecDepth 100000
set_option maxHeartbeats 1000000
set_option exponentiation.threshold 20000
/-! MiP: what is compiled is what the text does: loops' sources, targets, comprehensions, all expressions. -/
namespace Mi
open PySem PySem.Spec PyProof.Rows L2
variable {L : Place} {F : Fns} {tab : Tab}
section
variable {f g : Cn → Expr → Option E} {cn : Cn} {X : Cx} {W : WX} (wd : Wd L F tab cn X)
theorem assign_cons {e : Expr} {r : List Expr} {env : PySem.Env} (h : plainE e = true) : assignEach (e :: r) env = (false, assign e env) :: assignEach r env := by
  cases e <;> first
    | rfl
    | cases h
include wd
/-- targets -/
theorem snd_targL (n : Nat) (hn : ∀ e t, targT cn n e = some t → PG X e (TGx L t)) : ∀ {es : List Expr} {ts : List T}, targL (targT cn n) es = some ts → PGs X es (TGsx L ts) ∧ (assignEach es X.env).length = ts.length ∧ (assignEach es X.env).findIdx? (·.1) = none
  | [], ts, h => by cases h; exact ⟨tgs_nil, rfl, rfl⟩
  | e :: r, ts, h => by
    unfold targL at h
    split at h
    · rename_i hp
      obtain ⟨t, h1, h2⟩ := Option.bind_eq_some_iff.mp h
      obtain ⟨ts', h3, rfl⟩ := Option.map_eq_some_iff.mp h2
      obtain ⟨a, b, c⟩ := snd_targL n hn h3
      refine ⟨tgs_cons (hn e t h1) a (by rw [assign_cons hp]; rfl), by rw [assign_cons hp, List.length_cons, List.length_cons, b], ?_⟩
      rw [assign_cons hp, List.findIdx?_cons, c]
      rfl
    · cases h
theorem snd_targ : ∀ (n : Nat) (e : Expr) (t : T), targT cn n e = some t → PG X e (TGx L t)
  | 0, _, _, h => by cases h
  | n + 1, e, t, h => by
    unfold targT at h
    split at h
    · split at h
      · rename_i hs
        obtain ⟨i, h1, rfl⟩ := Option.map_eq_some_iff.mp h
        obtain ⟨a, b⟩ := wd.sto _ hs
        exact tg_nm wd.nd (by rw [wd.N]; exact ixOf_get h1) (by rw [wd.sc]; exact a) (by rw [wd.sc]; exact b)
      · cases h
    · obtain ⟨ts, h1, rfl⟩ := Option.map_eq_some_iff.mp h
      obtain ⟨a, b, c⟩ := snd_targL wd n (snd_targ n) h1
      exact tg_tup wd.K wd.calm a b c
    · cases h
variable (tk : Takes X W)
include tk
theorem snd_iterC (hf : SndE L F tab f) {tg : Expr} {x : Str} {args : List Expr} {p pos : Pos} {c : It} (hg : isBlt tab cn x = true) (h : iterC (f cn) tg x args = some c) : PI X tg (.Call (.Name x p) args [] pos) (TIx L F W c) := by
  obtain ⟨gl, _⟩ := wd.glob (Bool.and_eq_true_iff.mp hg).1
  unfold iterC at h
  split at h
  · rename_i e
    subst e
    have hm : X.mg "range" = none := wd.fre _ (by decide +kernel)
    split at h
    · split at h
      · rename_i hp
        obtain ⟨ca, h1, rfl⟩ := Option.map_eq_some_iff.mp h
        exact ti_rng1 gl hm (hf cn _ ca h1 X W wd tk) (star_one hp)
      · cases h
    · split at h
      · rename_i hp
        obtain ⟨ca, h1, h2⟩ := Option.bind_eq_some_iff.mp h
        obtain ⟨cb, h3, rfl⟩ := Option.map_eq_some_iff.mp h2
        exact ti_rng2 gl hm (hf cn _ ca h1 X W wd tk) (hf cn _ cb h3 X W wd tk) (star_cons hp.1) (star_one hp.2)
      · cases h
    · cases h
  · split at h
    · rename_i ht
      unfold isTup at ht
      split at ht
      · split at h
        · rename_i e
          subst e
          have hm : X.mg "enumerate" = none := wd.fre _ (by decide +kernel)
          split at h
          · split at h
            · rename_i hp
              obtain ⟨ca, h1, rfl⟩ := Option.map_eq_some_iff.mp h
              exact ti_en wd.K gl hm (hf cn _ ca h1 X W wd tk) (star_one hp)
            · cases h
          · cases h
        · split at h
          · rename_i e
            subst e
            have hm : X.mg "zip" = none := wd.fre _ (by decide +kernel)
            split at h
            · split at h
              · rename_i hp
                obtain ⟨ca, h1, h2⟩ := Option.bind_eq_some_iff.mp h
                obtain ⟨cb, h3, rfl⟩ := Option.map_eq_some_iff.mp h2
                exact ti_zi wd.K gl hm (hf cn _ ca h1 X W wd tk) (hf cn _ cb h3 X W wd tk) (star_cons hp.1) (star_one hp.2)
              · cases h
            · cases h
          · cases h
      · cases ht
    · cases h
theorem snd_iter (hf : SndE L F tab f) {tg it : Expr} {c : It} (h : iterE tab (f cn) cn tg it = some c) : PI X tg it (TIx L F W c) := by
  unfold iterE at h
  split at h
  · rename_i x args hn
    unfold iterN at hn
    split at hn
    · split at hn
      · rename_i hc
        cases hn
        exact snd_iterC wd tk hf hc.1 h
      · cases hn
    · cases hn
  · obtain ⟨ca, h1, rfl⟩ := Option.map_eq_some_iff.mp h
    exact ti_val wd.K (hf cn _ ca h1 X W wd tk)
omit wd tk in
theorem fold_id {e : Expr} {env : PySem.Env} (h : isSetD e = false) (x : Value) : foldedSetIterable e env x = pure x := by
  cases e <;> first
    | rfl
    | cases h
omit tk in
/-- a comprehension's block -/
theorem Wd.blk {scope : Scope} {own : List (Str × Nat)} (ok : BlkOk X.N X.env.scope scope own) (s : Shared) (H : Hp) (C : Addr) (cl : List (Str × Addr)) (fp : List Addr) :
    Wd L F tab ⟨cn.N, relS scope cn.sc, scope⟩ (X.blk s H scope (compEnvC scope cl C X.env) fp) := by
  refine ⟨wd.K, wd.calm, wd.nd, wd.N, ?_, ok.kind, fun x hx => ?_, wd.un, wd.gu, wd.fre, wd.con, wd.fn⟩
  · show relS scope X.env.scope = relS scope cn.sc
    rw [wd.sc]
  · unfold isSto at hx
    have keep : ∀ k, k ≠ NameKind.free → scope.names.lookup x = some k → (relS scope cn.sc).names.lookup x = some k := fun k hk h => lookup_relS_keep hk h
    rcases Bool.or_eq_true_iff.mp hx with h | h
    · have h := eq_of_beq h
      have h2 := keep _ (by decide) h
      exact ⟨.inl h2, .inr h2⟩
    · have h' : scope.names.lookup x = some .cell := eq_of_beq h
      have h2 := keep _ (by decide) h'
      exact ⟨.inr h2, .inl h⟩
omit wd tk in
theorem takes_now {X : Cx} : Takes X NoW := fun u s' ⟨_, _, _, _, _, _, _, _, _, _, _, _, _, _, _, _, w⟩ => w.elim
/-- the parts of a comprehension -/
structure LcOk (tab : Tab) (L : Place) (F : Fns) (W : WX) (cn : Cn) (X : Cx) (tg it : Expr) (ifs : List Expr) (elt : Expr) (scope : Scope) (c : E) : Prop where
  is : ∃ (t : T) (ci : It) (ce : E) (vs : List Nat) (own : List (Str × Nat)), PI X tg it (TIx L F W ci) ∧ BlkOk X.N X.env.scope scope own ∧ own.map (·.2) = vs ∧ (∀ i ∈ t.names, i ∈ vs) ∧ (∀ x, foldedSetIterable it X.env x = pure x) ∧
    (∀ (s : Shared) (H : Hp) (C : Addr) (cl : List (Str × Addr)) (fp : List Addr), PG (X.blk s H scope (compEnvC scope cl C X.env) fp) tg (TGx L t)) ∧
    (∀ (s : Shared) (H : Hp) (C : Addr) (cl : List (Str × Addr)) (fp : List Addr), PE (X.blk s H scope (compEnvC scope cl C X.env) fp) elt (TEx L F NoW ce)) ∧
    ((ifs = [] ∧ c = .lc ce t ci vs) ∨ ∃ k cc, ifs = [k] ∧ c = .lci ce t ci cc vs ∧ ∀ (s : Shared) (H : Hp) (C : Addr) (cl : List (Str × Addr)) (fp : List Addr), PT (X.blk s H scope (compEnvC scope cl C X.env) fp) k (TTx L F NoW cc))
theorem lc_ok (hf : SndE L F tab f) (hg : SndT L F tab g) {elt : Expr} {scope : Scope} {gs : List Comprehension} {c : E} (h : lcE tab f g cn elt scope gs = some c) : ∃ tg it ifs, gs = [⟨tg, it, ifs, 0⟩] ∧ LcOk tab L F W cn X tg it ifs elt scope c := by
  unfold lcE at h
  split at h
  · rename_i tg it ifs a
    split at h
    · rename_i hc
      obtain ⟨rfl, hs, hb⟩ := hc
      obtain ⟨ci, h1, h2⟩ := Option.bind_eq_some_iff.mp h
      obtain ⟨t, h3, h4⟩ := Option.bind_eq_some_iff.mp h2
      split at h4
      · rename_i hn
        obtain ⟨ce, h5, h6⟩ := Option.bind_eq_some_iff.mp h4
        have ok : BlkOk X.N X.env.scope scope (ownOf cn.N scope) := by rw [wd.N, wd.sc]; exact blkOk_by hb
        have names : ∀ i ∈ t.names, i ∈ (ownOf cn.N scope).map (·.2) := fun i hi => List.contains_iff_mem.mp (List.all_eq_true.mp hn i hi)
        refine ⟨tg, it, ifs, rfl, ⟨⟨t, ci, ce, _, ownOf cn.N scope, snd_iter wd tk hf h1, ok, rfl, names, fold_id hs, fun s H C cl fp => snd_targ (wd.blk ok s H C cl fp) 4 tg t h3,
          fun s H C cl fp => hf _ elt ce h5 _ NoW (wd.blk ok s H C cl fp) takes_now, ?_⟩⟩⟩
        split at h6
        · cases h6
          exact .inl ⟨rfl, rfl⟩
        · rename_i k
          obtain ⟨cc, h7, rfl⟩ := Option.map_eq_some_iff.mp h6
          exact .inr ⟨k, cc, rfl, rfl, fun s H C cl fp => hg _ k cc h7 _ NoW (wd.blk ok s H C cl fp) takes_now⟩
        · cases h6
      · cases h4
    · cases h
  · cases h
theorem snd_lc (hf : SndE L F tab f) (hg : SndT L F tab g) {elt : Expr} {scope : Scope} {gs : List Comprehension} {pos : Pos} {c : E} (h : lcE tab f g cn elt scope gs = some c) : PE X (.ListComp elt gs scope pos) (TEx L F W c) := by
  obtain ⟨tg, it, ifs, rfl, ⟨t, ci, ce, vs, own, hi, ok, hv, hn, hs, hgt, he, hc⟩⟩ := lc_ok wd tk hf hg h
  rcases hc with ⟨rfl, rfl⟩ | ⟨k, cc, rfl, rfl, ht⟩
  · exact te_lc wd.calm wd.nd hi ok hv hn hgt he hs
  · exact te_lci wd.calm wd.nd hi ok hv hn hgt ht he hs
end
/-! ### all expressions -/
theorem step_E {f g : Cn → Expr → Option E} (hf : SndE L F tab f) (hg : SndT L F tab g) : SndE L F tab (stepE tab f g) := by
  intro cn e c h X W wd tk
  unfold stepE at h
  split at h
  · exact snd_var wd h
  · exact snd_con h
  · obtain ⟨ca, h1, h2⟩ := Option.bind_eq_some_iff.mp h
    obtain ⟨cb, h3, rfl⟩ := Option.map_eq_some_iff.mp h2
    exact te_bin wd.K (hf cn _ ca h1 X W wd tk) (hf cn _ cb h3 X W wd tk)
  · split at h
    · obtain ⟨ca, h1, rfl⟩ := Option.map_eq_some_iff.mp h
      exact te_neg (hf cn _ ca h1 X W wd tk)
    · obtain ⟨ca, h1, rfl⟩ := Option.map_eq_some_iff.mp h
      exact te_not wd.K (hf cn _ ca h1 X W wd tk)
    · cases h
  · exact (snd_cmp wd tk hf h).1
  · exact snd_bool wd tk hf h
  · obtain ⟨cc, h1, h2⟩ := Option.bind_eq_some_iff.mp h
    obtain ⟨ca, h3, h4⟩ := Option.bind_eq_some_iff.mp h2
    obtain ⟨cb, h5, rfl⟩ := Option.map_eq_some_iff.mp h4
    exact te_ite (hg cn _ cc h1 X W wd tk) (hf cn _ ca h3 X W wd tk) (hf cn _ cb h5 X W wd tk)
  · obtain ⟨cs, h1, rfl⟩ := Option.map_eq_some_iff.mp h
    exact te_tup (snd_list wd tk hf h1)
  · obtain ⟨cs, h1, rfl⟩ := Option.map_eq_some_iff.mp h
    exact te_lst (snd_list wd tk hf h1)
  · exact snd_sub wd tk hf h
  · unfold callsE at h
    split at h
    · split at h
      · exact snd_call wd tk hf h
      · exact snd_att wd tk hf h
      · cases h
    · cases h
  · exact snd_lc wd tk hf hg h
  · cases h
theorem step_T {f g : Cn → Expr → Option E} (hf : SndE L F tab f) (hg : SndT L F tab g) : SndT L F tab (stepT f g) := by
  intro cn e c h X W wd tk
  unfold stepT at h
  split at h
  · rename_i op a p
    split at h
    · obtain ⟨ca, h1, rfl⟩ := Option.map_eq_some_iff.mp h
      exact tt_not (hg cn _ ca h1 X W wd tk)
    · rename_i hop
      obtain ⟨ca, h1, rfl⟩ := Option.map_eq_some_iff.mp h
      refine tt_tst wd.K (hf cn _ ca h1 X W wd tk) fun whole => ?_
      cases op <;> first
        | rfl
        | exact absurd rfl hop
  · exact snd_boolT wd tk hg h
  · obtain ⟨cc, h1, h2⟩ := Option.bind_eq_some_iff.mp h
    obtain ⟨ca, h3, h4⟩ := Option.bind_eq_some_iff.mp h2
    obtain ⟨cb, h5, rfl⟩ := Option.map_eq_some_iff.mp h4
    exact tt_ite (hg cn _ cc h1 X W wd tk) (hg cn _ ca h3 X W wd tk) (hg cn _ cb h5 X W wd tk)
  · exact (snd_cmp wd tk hf h).2
  · rename_i h1 h2 h3 h4
    obtain ⟨ca, h5, rfl⟩ := Option.map_eq_some_iff.mp h
    refine tt_tst wd.K (hf cn _ ca h5 X W wd tk) fun whole => ?_
    cases e <;> first
      | rfl
      | exact absurd rfl (h1 _ _ _)
      | exact absurd rfl (h2 _ _ _)
      | exact absurd rfl (h3 _ _ _ _)
      | exact absurd rfl (h4 _ _ _ _)
theorem comp_snd : ∀ n, SndE L F tab (compE tab n) ∧ SndT L F tab (compT tab n)
  | 0 => ⟨fun _ _ _ h => (nomatch (show (none : Option E) = some _ from h)), fun _ _ _ h => (nomatch (show (none : Option E) = some _ from h))⟩
  | n + 1 => by
    obtain ⟨a, b⟩ := comp_snd n
    refine ⟨fun cn e c h => ?_, fun cn e c h => ?_⟩
    · exact step_E a b cn e c h
    · exact step_T a b cn e c h
end Mi
end
section
set_option Elab.async false
set_option linter.all false
set_option maxRecDepth 100000
set_option maxHeartbeats 1000000
set_option exponentiation.threshold 20000
/-! MiQ: statements, compiled and read. -/
namespace Mi
open PySem PySem.Spec PyProof.Rows L2
def isLoc (sc : Scope) : Expr → Bool
  | .Name x _ => sc.names.lookup x == some .local
  | _ => false
theorem fm_lt {α β : Type} {f : α → Option β} : ∀ {l : List α} {x : α}, x ∈ l → f x = none → (l.filterMap f).length < l.length
  | y :: l, x, h, e => by
    rw [List.filterMap_cons]
    rcases List.mem_cons.mp h with rfl | h
    · rw [e]
      exact Nat.lt_succ_of_le (List.length_filterMap_le _ _)
    · have ih := fm_lt (l := l) h e
      cases f y with
      | none => exact Nat.lt_succ_of_lt ih
      | some z => exact Nat.succ_lt_succ ih
theorem sw_folded {ts vs : List Expr} {k k2 : Nat} {p p2 : Pos} {env : PySem.Env} (h : vs.all (foldedForSure 8) = true) : swappedStores [.Tuple ts k p] (.Tuple vs k2 p2) env = pure none := by
  unfold swappedStores
  simp only [h]
  split
  · rfl
  · split
    · rfl
    · split
      · rfl
      · rfl
theorem sw_cells {ts vs : List Expr} {k k2 : Nat} {p p2 : Pos} {env : PySem.Env} (h : ∃ t ∈ ts, isLoc env.scope t = false) : swappedStores [.Tuple ts k p] (.Tuple vs k2 p2) env = pure none := by
  obtain ⟨t, ht, hl⟩ := h
  unfold swappedStores
  simp only
  split
  · rfl
  · split
    · rfl
    · split
      · rfl
      · rename_i hn
        exfalso
        apply hn
        rw [Bool.or_eq_true_iff]
        left
        have := fm_lt (f := fun
            | .Name id pos => if env.kindOf id == some .local && pos.line == (ts.head?.map (·.pos.line)).getD 0 then some id else none
            | _ => none) ht (by
          cases t with
          | Name x px =>
            have hl : (env.kindOf x == some NameKind.local) = false := hl
            show (if (env.kindOf x == some NameKind.local && _) = true then some x else none) = none
            rw [hl]
            rfl
          | _ => rfl)
        exact bne_iff_ne.mpr (Nat.ne_of_lt this)
theorem sw_two {x y : Str} {px py p p2 : Pos} {a b : Expr} {k k2 : Nat} {env : PySem.Env} (hk : env.scope.kind = .function) (hx : env.scope.names.lookup x = some .local) (hy : env.scope.names.lookup y = some .local) (hl : py.line = px.line) (hne : x ≠ y) (ha : plainE a = true) (hb : plainE b = true)
    (h1 : [a, b].all (foldedForSure 8) = false) (h2 : [a, b].all (constantsAlone 8) = false) : swappedStores [.Tuple [.Name x px, .Name y py] k p] (.Tuple [a, b] k2 p2) env = pure (some [x, y]) := by
  have e1 : (env.kindOf x == some NameKind.local) = true := by unfold Env.kindOf; rw [hx]; rfl
  have e2 : (env.kindOf y == some NameKind.local) = true := by unfold Env.kindOf; rw [hy]; rfl
  have e3 : env.blockKind = .function := by unfold Env.blockKind; rw [hk]; rfl
  have e4 : ∀ a : Expr, plainE a = true → (match a with
    | .Starred .. => true | _ => false) = false := fun a ha => by
    cases a <;> first
      | rfl
      | exact absurd ha Bool.false_ne_true
  have e5 : [a, b].any (fun
    | .Starred .. => true | _ => false) = false := by
    rw [List.any_cons, List.any_cons, e4 a ha, e4 b hb]
    rfl
  unfold swappedStores
  simp only [h1, h2, e3, e5, List.filterMap_cons, List.filterMap_nil, e1, e2, Expr.pos, hl]
  simp [hne, List.eraseDups_cons, Ne.symm hne, Expr.pos]
  intro h
  rcases h with h | h
  · exact absurd ((e4 a ha).symm.trans h) Bool.false_ne_true
  · exact absurd ((e4 b hb).symm.trans h) Bool.false_ne_true
/-! ### the compiler -/
section
variable (tab : Tab) (cE cT : Expr → Option E) (cn : Cn)
def okRhs : Expr → Bool
  | .SetComp _ _ _ _ => false
  | .DictComp _ _ _ _ _ => false
  | _ => true
structure Par where
  i : Nat
  j : Nat
  a : Expr
  b : Expr
def parOf (ts : List Expr) (e : Expr) : Option Par :=
  match ts, e with
  | [.Name x px, .Name y py], .Tuple [a, b] _ _ => if (cn.sc.names.lookup x = some .local ∧ cn.sc.names.lookup y = some .local ∧ py.line = px.line ∧ x ≠ y) ∧ plainE a = true ∧ plainE b = true ∧ [a, b].all (foldedForSure 8) = false ∧ [a, b].all (constantsAlone 8) = false then
      (ixOf x cn.N).bind fun i => (ixOf y cn.N).map fun j => ⟨i, j, a, b⟩ else none
  | _, _ => none
def plainTup (ts : List Expr) (e : Expr) : Bool :=
  match e with
  | .Tuple vs _ _ => vs.all (foldedForSure 8) || ts.any fun t => !isLoc cn.sc t
  | _ => true
def asgE (tg e : Expr) : Option S :=
  match tg with
  | .Name x _ => if isSto cn x = true ∧ okRhs e = true then (ixOf x cn.N).bind fun i => (cE e).map fun c => .asg (.nm i) c else none
  | .Subscript o i _ => if isSlice i = false then (cE e).bind fun ce => (cE o).bind fun co => (cE i).map fun ci => .sset co ci ce else none
  | .Tuple ts k p => (match parOf cn ts e with
    | some q => (cE q.a).bind fun ca => (cE q.b).map fun cb => .par q.i q.j ca cb
    | none => if plainTup cn ts e = true then (targT cn 4 (.Tuple ts k p)).bind fun t => (cE e).map fun c => .asg t c else none)
  | _ => none
def okOp : Operator → Bool
  | .Add => true
  | .Sub => true
  | _ => false
def augE (tg : Expr) (op : Operator) (e : Expr) : Option S :=
  match tg with
  | .Name x _ => if isSto cn x = true ∧ okOp op = true then (ixOf x cn.N).bind fun i => (cE e).map fun c => .aug i op c else none
  | .Subscript o i _ => if isSlice i = false ∧ okOp op = true then (cE o).bind fun co => (cE i).bind fun ci => (cE e).map fun ce => .augS co ci op ce else none
  | _ => none
def exprS (e : Expr) : Option S :=
  match e with
  | .Constant (.str _) _ _ => some .pas
  | e => if isCall e = true then (cE e).map .exp else none
def stepS (rec : List Stmt → Option Ss) (s : Stmt) : Option S :=
  match s with
  | .Return v _ => (match v with
    | some e => (cE e).map .ret
    | none => some (.ret (.con .non)))
  | .Expr e _ => exprS cE e
  | .Assign tgs e _ => (match tgs with
    | [tg] => asgE cE cn tg e
    | _ => none)
  | .AugAssign tg op e _ => augE cE cn tg op e
  | .If c a b _ => (cT c).bind fun cc => (rec a).bind fun ca => (rec b).map fun cb => .ife cc ca cb
  | .While c b o _ => (match o with
    | [] => (cT c).bind fun cc => (rec b).map fun cb => .whl cc cb
    | _ => none)
  | .For tg it b o _ => (match o with
    | [] => if isSetD it = false then (iterE tab cE cn tg it).bind fun ci => (targT cn 4 tg).bind fun t => (rec b).map fun cb => .fr t ci cb else none
    | _ => none)
  | .Raise _ _ _ => some .rai
  | .Pass _ => some .pas
  | .Break _ => some .brk
  | .Continue _ => some .cnt
  | _ => none
def listS (f : Stmt → Option S) : List Stmt → Option Ss
  | [] => some .nil
  | s :: r => (f s).bind fun c => (listS f r).map fun cs => .cons c cs
def compS : Nat → Stmt → Option S
  | 0, _ => none
  | n + 1, s => stepS tab cE cT cn (listS (compS n)) s
end
/-- a def's body -/
def compB (tab : Tab) (cn : Cn) (body : List Stmt) : Option Ss := listS (compS tab (compE tab 40 cn) (compT tab 40 cn) cn 20) body

/-! ### it is read rightly -/
variable {L : Place} {F : Fns} {tab : Tab}
theorem sw_sub {o i : Expr} {p : Pos} {e : Expr} {l : Nat} {env : PySem.Env} : swapsWithSole [.Subscript o i p] e l env = pure false ∧ swappedStores [.Subscript o i p] e env = pure none := by
  cases e <;> exact ⟨rfl, rfl⟩
theorem sw_tup {ts : List Expr} {k : Nat} {p : Pos} {e : Expr} {l : Nat} {env : PySem.Env} : swapsWithSole [.Tuple ts k p] e l env = pure false := by
  cases e <;> rfl
theorem sw_val {t : Option Expr} {e : Expr} {l : Nat} {env : PySem.Env} (h : isComp e = false) : swapsWith e t l env = pure false := by
  cases e <;> first
    | rfl
    | exact absurd h.symm Bool.false_ne_true
theorem sw_lc {elt : Expr} {gs : List Comprehension} {scope : Scope} {pos px : Pos} {x : Str} {l : Nat} {env : PySem.Env} : ∃ b, swapsWith (.ListComp elt gs scope pos) (some (.Name x px)) l env = pure b ∧ (b = true → env.scope.names.lookup x = some .local) := by
  refine ⟨env.blockKind == .function && env.kindOf x == some .local && px.line == pos.line && !(scope.names.any fun (n, k) => n == x && (k == .local || k == .cell)), rfl, fun h => ?_⟩
  have h1 := (Bool.and_eq_true_iff.mp h).1
  have h2 := (Bool.and_eq_true_iff.mp h1).1
  exact eq_of_beq (Bool.and_eq_true_iff.mp h2).2
section
variable {cn : Cn} {X : Cx} {W : WX} (wd : Wd L F tab cn X) (tk : Takes X W) (hp : PassesOwn (model X.prog X.w) X.A X.env X.xe) {m : Nat}
include wd tk
theorem snd_asg {tg e : Expr} {pos : Pos} {c : S} (h : asgE (compE tab (m + 1) cn) cn tg e = some c) : PS X (.Assign [tg] e pos) (TSx L F W c) := by
  have hf := (comp_snd (L := L) (F := F) (tab := tab) (m + 1)).1
  unfold asgE at h
  split at h
  · rename_i x px
    split at h
    · rename_i hc
      obtain ⟨i, h1, h2⟩ := Option.bind_eq_some_iff.mp h
      obtain ⟨ce, h3, rfl⟩ := Option.map_eq_some_iff.mp h2
      obtain ⟨a, b⟩ := wd.sto _ hc.1
      have hN : X.N[i]? = some x := by rw [wd.N]; exact ixOf_get h1
      have plain : swapsWith e (some (.Name x px)) pos.line X.env = pure false → PS X (.Assign [.Name x px] e pos) (TSx L F W (.asg (.nm i) ce)) := fun hs =>
        ts_set wd.nd hN (by rw [wd.sc]; exact a) (hf cn e ce h3 X W wd tk) hs (by rw [wd.sc]; exact b)
      cases hcomp : isComp e with
      | false => exact plain (sw_val hcomp)
      | true =>
        unfold isComp at hcomp
        split at hcomp
        · rename_i elt gs scope lpos
          obtain ⟨bb, hs, hloc⟩ := sw_lc (elt := elt) (gs := gs) (scope := scope) (pos := lpos) (px := px) (x := x) (l := pos.line) (env := X.env)
          cases bb with
          | false => exact plain hs
          | true =>
            have h4 : lcE tab (compE tab m) (compT tab m) cn elt scope gs = some ce := h3
            obtain ⟨tg, it, ifs, rfl, ⟨t, ci, ce', vs, own, hi, ok, hv, hn, hfold, hgt, he, hc⟩⟩ := lc_ok (W := W) wd tk (comp_snd m).1 (comp_snd m).2 h4
            rcases hc with ⟨rfl, rfl⟩ | ⟨k, cc, rfl, rfl, ht⟩
            · exact ts_lc wd.calm wd.nd hN (hloc rfl) hs hi ok hv hn hgt he hfold
            · exact ts_lci wd.calm wd.nd hN (hloc rfl) hs hi ok hv hn hgt ht he hfold
        · exact absurd hc.2 Bool.false_ne_true
        · exact absurd hc.2 Bool.false_ne_true
        · cases hcomp
    · cases h
  · rename_i o i ps
    split at h
    · rename_i hi
      obtain ⟨ce, h1, h2⟩ := Option.bind_eq_some_iff.mp h
      obtain ⟨co, h3, h4⟩ := Option.bind_eq_some_iff.mp h2
      obtain ⟨ci, h5, rfl⟩ := Option.map_eq_some_iff.mp h4
      refine ts_sset (hf cn _ co h3 X W wd tk) (hf cn _ ci h5 X W wd tk) (hf cn _ ce h1 X W wd tk) (fun v => ?_) (sw_sub (l := pos.line)).1 (sw_sub (l := pos.line)).2 rfl
      cases i <;> first
        | rfl
        | exact absurd hi.symm Bool.false_ne_true
    · cases h
  · rename_i ts k p
    split at h
    · rename_i q hq
      unfold parOf at hq
      split at hq
      · rename_i x px y py a b k2 p2
        split at hq
        · rename_i hc
          obtain ⟨⟨c1, c2, c3, c4⟩, c5, c6, c7, c8⟩ := hc
          obtain ⟨i, h1, h2⟩ := Option.bind_eq_some_iff.mp hq
          obtain ⟨j, h3, rfl⟩ := Option.map_eq_some_iff.mp h2
          obtain ⟨ca, h5, h6⟩ := Option.bind_eq_some_iff.mp h
          obtain ⟨cb, h7, rfl⟩ := Option.map_eq_some_iff.mp h6
          have hi : X.N[i]? = some x := by rw [wd.N]; exact ixOf_get h1
          have hj : X.N[j]? = some y := by rw [wd.N]; exact ixOf_get h3
          have hij : i ≠ j := fun e => by
            subst e
            rw [hi] at hj
            exact c4 (Option.some.inj hj)
          have lx : X.env.scope.names.lookup x = some .local := by rw [wd.sc]; exact c1
          have ly : X.env.scope.names.lookup y = some .local := by rw [wd.sc]; exact c2
          exact ts_par wd.calm wd.nd hi hj hij lx ly (hf cn _ ca h5 X W wd tk) (hf cn _ cb h7 X W wd tk) (star_cons c5) (star_one c6)
            (sw_two (by rw [wd.sc]; exact wd.kind) lx ly c3 c4 c5 c6 c7 c8) sw_tup
        · cases hq
      · cases hq
    · split at h
      · rename_i hpl
        obtain ⟨t, h1, h2⟩ := Option.bind_eq_some_iff.mp h
        obtain ⟨ce, h3, rfl⟩ := Option.map_eq_some_iff.mp h2
        refine ts_asg (hf cn _ ce h3 X W wd tk) (snd_targ wd 4 _ t h1) sw_tup ?_ rfl
        unfold plainTup at hpl
        split at hpl
        · rcases Bool.or_eq_true_iff.mp hpl with h4 | h4
          · exact sw_folded h4
          · obtain ⟨t', ht, hl⟩ := List.any_eq_true.mp h4
            exact sw_cells ⟨t', ht, by rw [wd.sc]; simpa using hl⟩
        · rename_i hnt
          cases e <;> first
            | rfl
            | exact absurd rfl (hnt _ _ _)
      · cases h
  · cases h
omit wd tk in
theorem okOp_or {op : Operator} (h : okOp op = true) : op = .Add ∨ op = .Sub := by
  cases op <;> first
    | exact .inl rfl
    | exact .inr rfl
    | exact absurd h Bool.false_ne_true
theorem snd_aug {tg e : Expr} {op : Operator} {pos : Pos} {c : S} (h : augE (compE tab (m + 1) cn) cn tg op e = some c) : PS X (.AugAssign tg op e pos) (TSx L F W c) := by
  have hf := (comp_snd (L := L) (F := F) (tab := tab) (m + 1)).1
  unfold augE at h
  split at h
  · split at h
    · rename_i hc
      obtain ⟨i, h1, h2⟩ := Option.bind_eq_some_iff.mp h
      obtain ⟨ce, h3, rfl⟩ := Option.map_eq_some_iff.mp h2
      obtain ⟨a, b⟩ := wd.sto _ hc.1
      exact ts_aug (okOp_or hc.2) wd.nd (by rw [wd.N]; exact ixOf_get h1) (by rw [wd.sc]; exact a) (hf cn e ce h3 X W wd tk) (by rw [wd.sc]; exact b)
    · cases h
  · rename_i o i ps
    split at h
    · rename_i hc
      obtain ⟨co, h1, h2⟩ := Option.bind_eq_some_iff.mp h
      obtain ⟨ci, h3, h4⟩ := Option.bind_eq_some_iff.mp h2
      obtain ⟨ce, h5, rfl⟩ := Option.map_eq_some_iff.mp h4
      refine ts_augS wd.K (okOp_or hc.2) (hf cn _ co h1 X W wd tk) (hf cn _ ci h3 X W wd tk) (hf cn _ ce h5 X W wd tk) fun ov iv new => ?_
      cases i <;> first
        | rfl
        | exact absurd hc.1.symm Bool.false_ne_true
    · cases h
  · cases h
include hp
theorem snd_listS {f : Stmt → Option S} (hf : ∀ s c, f s = some c → PS X s (TSx L F W c)) : ∀ {ss : List Stmt} {cs : Ss}, listS f ss = some cs → PSs X ss (TSsx L F W cs)
  | [], _, h => by cases h; exact tss_nil
  | s :: r, _, h => by
    obtain ⟨c, h1, h2⟩ := Option.bind_eq_some_iff.mp h
    obtain ⟨cs, h3, rfl⟩ := Option.map_eq_some_iff.mp h2
    exact tss_cons (hf s c h1) (snd_listS hf h3)
theorem snd_step {rec : List Stmt → Option Ss} (hr : ∀ ss cs, rec ss = some cs → PSs X ss (TSsx L F W cs)) {s : Stmt} {c : S} (h : stepS tab (compE tab (m + 1) cn) (compT tab (m + 1) cn) cn rec s = some c) : PS X s (TSx L F W c) := by
  have hf := (comp_snd (L := L) (F := F) (tab := tab) (m + 1)).1
  have ht := (comp_snd (L := L) (F := F) (tab := tab) (m + 1)).2
  unfold stepS at h
  split at h
  · split at h
    · obtain ⟨ce, h1, rfl⟩ := Option.map_eq_some_iff.mp h
      exact ts_ret (hf cn _ ce h1 X W wd tk)
    · cases h
      exact ts_retN
  · unfold exprS at h
    split at h
    · cases h
      exact ts_doc
    · split at h
      · rename_i hc
        obtain ⟨ce, h1, rfl⟩ := Option.map_eq_some_iff.mp h
        refine ts_expr (hf cn _ ce h1 X W wd tk) (sw_val ?_)
        unfold isCall at hc
        split at hc
        · rfl
        · cases hc
      · cases h
  · split at h
    · exact snd_asg wd tk h
    · cases h
  · exact snd_aug wd tk h
  · obtain ⟨cc, h1, h2⟩ := Option.bind_eq_some_iff.mp h
    obtain ⟨ca, h3, h4⟩ := Option.bind_eq_some_iff.mp h2
    obtain ⟨cb, h5, rfl⟩ := Option.map_eq_some_iff.mp h4
    exact ts_if (ht cn _ cc h1 X W wd tk) (hr _ _ h3) (hr _ _ h5)
  · split at h
    · obtain ⟨cc, h1, h2⟩ := Option.bind_eq_some_iff.mp h
      obtain ⟨cb, h3, rfl⟩ := Option.map_eq_some_iff.mp h2
      exact ts_while hp (ht cn _ cc h1 X W wd tk) (hr _ _ h3)
    · cases h
  · split at h
    · split at h
      · rename_i hs
        obtain ⟨ci, h1, h2⟩ := Option.bind_eq_some_iff.mp h
        obtain ⟨t, h3, h4⟩ := Option.bind_eq_some_iff.mp h2
        obtain ⟨cb, h5, rfl⟩ := Option.map_eq_some_iff.mp h4
        exact ts_for hp wd.calm (snd_iter wd tk hf h1) (snd_targ wd 4 _ t h3) (hr _ _ h5) (fold_id hs)
      · cases h
    · cases h
  · cases h
    exact ts_never fun _ _ => rfl
  · cases h
    exact ts_pass
  · cases h
    exact ts_break
  · cases h
    exact ts_continue
  · cases h
theorem snd_S : ∀ (n : Nat) (s : Stmt) (c : S), compS tab (compE tab (m + 1) cn) (compT tab (m + 1) cn) cn n s = some c → PS X s (TSx L F W c)
  | 0, _, _, h => by cases h
  | n + 1, s, c, h => snd_step wd tk hp (fun ss cs hs => snd_listS wd tk hp (snd_S n) hs) h
theorem snd_body {body : List Stmt} {c : Ss} (h : compB tab cn body = some c) : PSs X body (TSsx L F W c) := snd_listS wd tk hp (snd_S wd tk hp 20) h
end
end Mi
end
section
set_option Elab.async false
set_option linter.all false
set_option maxRecDepth 100000
set_option maxHeartbeats 1000000
set_option exponentiation.threshold 20000
/-! MiR: a module's defs, all at once; the call of the law. -/
namespace Mi
open PySem PySem.Spec PyProof.Rows L2
/-- a def of the text, its parameters, all its names -/
structure Df where
  name : Str
  ps : List Str
  N : List Str
  args : Arguments
  body : List Stmt
  scope : Scope
abbrev Df.cn (d : Df) : Cn := ⟨d.N, d.scope, d.scope⟩
/-- the def is well formed and compiles to fd -/
structure Df.Ok (tab : Tab) (d : Df) (fd : FD) : Prop where
  sc : FnScope d.N d.ps d.scope
  nv : d.N.length = fd.nv
  np : d.ps.length = fd.np
  body : compB tab d.cn d.body = some fd.body
/-- all of them -/
inductive AllOk (tab : Tab) : List Df → List FD → Prop
  | nil : AllOk tab [] []
  | cons {d : Df} {fd : FD} {ds : List Df} {fs : List FD} : d.Ok tab fd → AllOk tab ds fs → AllOk tab (d :: ds) (fd :: fs)
theorem AllOk.get {tab : Tab} : ∀ {ds : List Df} {fs : List FD} {i : Nat} {d : Df}, AllOk tab ds fs → ds[i]? = some d → ∃ fd, fs[i]? = some fd ∧ d.Ok tab fd
  | [], _, _, _, h, e => by simp at e
  | x :: ds, _, 0, d, h, e => by
    cases h with
    | cons a b =>
      simp at e
      subst e
      exact ⟨_, rfl, a⟩
  | x :: ds, _, i + 1, d, h, e => by
    cases h with
    | cons a b =>
      obtain ⟨fd, h1, h2⟩ := AllOk.get (i := i) b (by simpa using e)
      exact ⟨fd, by simpa using h1, h2⟩
/-- what the heap has for the module's names -/
structure Mdl (L : Place) (mg : Str → Option Value) (tab : Tab) (ds : List Df) : Prop where
  fre : ∀ x ∈ bltNames, mg x = none
  con : ∀ x d, tab.lookup x = some (.con d) → ∃ v u, mg x = some u ∧ RelV v u ∧ ∀ H μ, RD L H μ v d
  fn : ∀ x i np, tab.lookup x = some (.fn i np) → ∃ d, ds[i]? = some d ∧ mg x = some (.ref (L.fn i))
  df : ∀ i d, ds[i]? = some d → ∃ fdat, FunD L.K d.name d.name d.args d.body d.scope [] [] (L.fn i) fdat ∧ Binds L.K fdat d.ps []
theorem renA_len : ∀ (n : Nat) (ds : List D), (renA n ds).length = ds.length
  | _, [] => rfl
  | n, d :: ds => by
    unfold renA
    split
    · rw [List.length_cons, List.length_cons, renA_len]
    · rw [List.length_cons, List.length_cons, renA_len]
theorem iso_len {R : List D → Mem → Res D} {n : Nat} (hR : ∀ ds M, R ds M ≠ .bad → ds.length = n) {ds : List D} {M : Mem} (h : iso R ds M ≠ .bad) : ds.length = n := by
  unfold iso at h
  split at h
  · rename_i as _
    split at h
    · split at h
      · rename_i r e
        rw [← renA_len 0 ds]
        refine hR _ (subM as M) fun z => ?_
        rw [z] at e
        have e : some Res.bad = some r := e
        cases e
        exact h rfl
      · exact hR _ _ h
    · exact hR _ _ h
  · exact hR _ _ h
theorem body_len {F : Fns} {fd : FD} {ds : List D} {M : Mem} (h : bodyR F fd ds M ≠ .bad) : ds.length = fd.np := by
  unfold bodyR at h
  split at h
  · rename_i c
    exact c.1
  · exact absurd rfl h
theorem run_len {fs : List FD} {k i : Nat} {ds : List D} {M : Mem} (h : run fs k i ds M ≠ .bad) : ∃ fd, fs[i]? = some fd ∧ ds.length = fd.np := by
  cases k with
  | zero => exact absurd rfl h
  | succ k =>
    unfold run at h
    split at h
    · exact absurd rfl h
    · rename_i fd e
      exact ⟨fd, e, iso_len (fun ds M => body_len) h⟩
/-- THE RULE: every def does what run tells, so many calls deep -/
theorem all_does {P : Program} {w : World} {L : Place} {mg : Str → Option Value} {base : Heap} {tab : Tab} {ds : List Df} {fs : List FD} (A : AllOk tab ds fs) (G : Mdl L mg tab ds) :
    ∀ (k i : Nat) (d : Df), ds[i]? = some d → ∀ fdat, FunD L.K d.name d.name d.args d.body d.scope [] [] (L.fn i) fdat → DoesG P w L mg base k (L.fn i) fdat d.ps (run fs k i)
  | 0, i, d, _, fdat, _ => DoesG.never fun _ _ => rfl
  | k + 1, i, d, hd, fdat, FD0 => by
    obtain ⟨fd, e, ok⟩ := A.get hd
    have er : run fs (k + 1) i = iso (bodyR (run fs k) fd) := by
      funext ds M
      unfold run
      rw [e]
    rw [er]
    refine DoesG.iso (does_of FD0 ok.sc ok.nv ok.np fun cdv A' outer s H E hr hg => ?_)
    have un : (A'.deeper (envOfC d.name d.scope s.heap.objs.size (L.fn i) cdv)).units + 65 < cLine := by
      have := hr.un
      omega
    have wd : Wd L (run fs k) tab d.cn (cxOf (CX P w) P w L.K mg base d.N d.name d.scope (L.fn i) cdv A' outer s H E) := by
      refine ⟨rfl, rfl, ok.sc.nd, rfl, rfl, ok.sc.kind, fun x hx => ⟨?_, .inl rfl⟩, un, hg, G.fre, G.con, fun x j np ht => ?_⟩
      · unfold isSto at hx
        rcases Bool.or_eq_true_iff.mp hx with h | h
        · exact .inl (eq_of_beq h)
        · exact .inr (eq_of_beq h)
      · obtain ⟨d', h1, h2⟩ := G.fn x j np ht
        obtain ⟨fdat', h3, h4⟩ := G.df j d' h1
        obtain ⟨fd', e', ok'⟩ := A.get h1
        refine ⟨k, fdat', d'.ps, h2, h3.kp, all_does A G k j d' h1 fdat' h3, hr, h4, fun ds M hn => ?_⟩
        obtain ⟨fd2, e2, hl⟩ := run_len hn
        rw [e'] at e2
        cases e2
        rw [hl, ok'.np]
    exact snd_body wd (takes_of rfl rfl rfl rfl) (passes_of rfl) ok.body

/-! ### the law's call -/
/-- the script as data -/
def scr (ns : List Int) : D := .rol (ns.map .int)
theorem ints_rds {L : Place} {H : Hp} {μ : List Addr} : ∀ ns : List Int, RDs L H μ (ns.map V.int) (ns.map D.int)
  | [] => .nil
  | n :: r => .cons (.int n) (ints_rds r)
theorem call_law {P : Program} {w : World} {L : Place} {mg mb : Str → Option Value} {k : Nat} {fa a : Addr} {fd : FuncData} {x : Str} {R : List D → Mem → Res D} {s₁ : Shared} {vs : List Value} {ns : List Int}
    (KX : L.K.In s₁.heap) (hns : s₁.heap.Ns mainGlobals mg) (hb : s₁.heap.Ns builtinsNs mb) (hbb : ∀ x : Str, x ≠ "__name__" → mb x = bootBuiltins x) (hlim : s₁.heap.NoLimit) (hg : s₁.gens = #[])
    (ha : s₁.heap.get? a = some { cls := .type "list", data := .seq vs.toArray }) (hi : IntsAre vs ns) (hl : ns.length ≤ sizeLine) (hr : Room k callerA)
    (F : ∀ base : Heap, L.K.In base → base.Ns mainGlobals mg → DoesG P w L mg base k fa fd [x] R) (hbind : ∀ (s : Shared) (u : Value), BindsTo s fd ⟨[u], []⟩ [(x, u)])
    (hR : ∃ M, R [scr ns] [] = .ok (.bl true) M) :
    codeAny (model P w) callerA (.call (.ref fa) ⟨[.ref a], []⟩) (fun r s' => r = .ok (.ret (.bool true)) ∧ OldK s₁.heap s'.heap ∧ s'.os = s₁.os ∧ AllBare s'.gens) s₁ := by
  have rv := vals_ints hi
  have go : ∀ H : Hp, (∀ b u, H b = some u → b = a ∧ L.K.lookup a = none ∧ ∃ o xs, u = .frz o (.lst xs)) → SqF L.K H a (ns.map V.int) → HOk P w H s₁.heap →
      codeAny (model P w) callerA (.call (.ref fa) ⟨[.ref a], []⟩) (fun r s' => r = .ok (.ret (.bool true)) ∧ OldK s₁.heap s'.heap ∧ s'.os = s₁.os ∧ AllBare s'.gens) s₁ := by
    intro H only hS hok
    have clear : ∀ {b : Addr} {o : Obj}, s₁.heap.get? b = some o → (∀ its n, o.data = .seq its n → L.K.lookup b ≠ none) → (hidT s₁.heap H).get? b = some o := fun {b o} e hn => hidT_get e (by
      cases q : H b with
      | none => rfl
      | some u =>
        obtain ⟨eb, hk, _⟩ := only b u q
        subst eb
        rw [ha] at e
        cases e
        exact absurd hk (hn _ _ rfl))
    have nsK : ∀ {b : Addr} {m : Str → Option Value}, s₁.heap.Ns b m → (hidT s₁.heap H).Ns b m := fun ⟨o, es, ep, e, d, r⟩ => ⟨o, es, ep, clear e (fun its n z => by rw [d] at z; cases z), d, r⟩
    have hKb : L.K.In (hidT s₁.heap H) := fun b o e => clear (KX b o e) fun _ _ _ z => by
      rw [z] at e
      cases e
    have hM : Mod L.K mg (hidT s₁.heap H) := by
      obtain ⟨mc, h1, h2⟩ := hlim
      exact ⟨hKb, nsK hns, ⟨mb, nsK hb, hbb⟩, ⟨mc, nsK h1, h2⟩⟩
    have e0 : Env0 P w L.K mg (hidT s₁.heap H) callerA [] s₁ H := ⟨rfl, hM, fun b o e => of_hidT e, Nat.le_of_eq (hidT_size _ _), trivial, fun b hb => (nomatch (show b ∈ ([] : List Addr) from hb)), hok, .of_eq hg⟩
    have R0 : RM L H [] [] := ⟨rfl, List.nodup_nil, fun n b o h _ => by simp at h⟩
    obtain ⟨M1, hR⟩ := hR
    have prm : Prm L R [.ref a] H (fun v _ => v = .bl true) fun _ _ _ => False := by
      refine ⟨[scr ns], [], [], R0, .cons (.rol hS (ints_rds ns)) .nil, ?_⟩
      rw [hR]
      intro v H' μ' _ _ rv
      cases rv
      rfl
    refine codeAny_mono (F _ hKb (nsK hns) callerA [] s₁ H ⟨[.ref a], []⟩ [.ref a] [.ref a] _ _ hr rfl e0 rfl (hbind s₁ (.ref a)) (.cons rfl .nil) prm) fun r s' h => ?_
    match r, h with
    | .ok (.ret u), h =>
      obtain ⟨v, H', os, bare, un, hok', r', q⟩ := h
      have q : v = .bl true := q
      subst q
      obtain rfl : u = Value.bool true := r'
      refine ⟨rfl, OldK.of_keep fun b o e => ?_, os, bare⟩
      cases q : H b with
      | none => exact un.keep b o e q (fun z => (nomatch (show b ∈ ([] : List Addr) from z))) (by simp)
      | some u =>
        obtain ⟨eb, _, ob, xs, rfl⟩ := only b u q
        obtain ⟨e2, _⟩ := hok' b _ (un.frzs b ob _ q)
        obtain ⟨e1, _⟩ := hok b _ q
        rw [e] at e1
        cases e1
        exact e2
    | .error e, h =>
      obtain ⟨_, _, _, _, _, _, _, _, _, _, _, _, z⟩ := h
      exact z.elim
  cases hk : L.K.lookup a with
  | some o =>
    have e := KX a o hk
    rw [ha] at e
    cases e
    refine go (fun _ => none) (fun b u z => nomatch (show (none : Option HO) = some u from z)) (.inr ⟨_, vs.toArray, _, hk, rfl, rfl, rfl, by rw [List.size_toArray, hi.length]; exact hl, by simpa using rv⟩) fun b u z => nomatch (show (none : Option HO) = some u from z)
  | none =>
    have at_ : ∀ {b : Addr} {u : HO}, upd (fun _ => none) a (.frz { cls := .type "list", data := .seq vs.toArray } (.lst (ns.map V.int))) b = some u → b = a ∧ u = .frz { cls := .type "list", data := .seq vs.toArray } (.lst (ns.map V.int)) := fun {b u} z => by
      by_cases hb : b = a
      · subst hb
        rw [upd_same] at z
        cases z
        exact ⟨rfl, rfl⟩
      · rw [upd_ne hb] at z
        cases z
    refine go (upd (fun _ => none) a (.frz { cls := .type "list", data := .seq vs.toArray } (.lst (ns.map V.int)))) (fun b u z => ?_) (.inl ⟨_, upd_same⟩) fun b u z => ?_
    · obtain ⟨e1, e2⟩ := at_ z
      exact ⟨e1, hk, _, _, e2⟩
    · obtain ⟨e1, e2⟩ := at_ z
      subst e1 e2
      exact ⟨ha, by rw [List.length_map]; exact hl, vs, _, rv, ha⟩
end Mi
end
section
set_option Elab.async false
set_option linter.all false
set_option maxRecDepth 100000
set_option maxHeartbeats 1000000
set_option exponentiation.threshold 20000
/-! MiS: the head: what the heap is to have, told by a Hook; a law's end. -/
namespace Mi
open PySem PySem.Spec PyProof.Rows L2
/-- the value u stands for d, in the known part of the heap -/
def all2 (f : D → Value → Bool) : List D → List Value → Bool
  | [], [] => true
  | d :: ds, u :: us => f d u && all2 f ds us
  | _, _ => false
def seqB' (K : PySem.W.Frag) (T : String) (u : Value) (p : List Value → Bool) : Bool :=
  match u with
  | .ref a => (match K.lookup a with
    | some ⟨.type c, none, .seq its _, _⟩ => decide (c = T) && (decide (its.size ≤ sizeLine) && p its.toList)
    | _ => false)
  | _ => false
def dB (K : PySem.W.Frag) : Nat → D → Value → Bool
  | 0, _, _ => false
  | n + 1, d, u => match d with
    | .non => (match u with
      | .none => true
      | _ => false)
    | .bl b => (match u with
      | .bool c => b == c
      | _ => false)
    | .int i => (match u with
      | .int j _ => decide (i = j)
      | _ => false)
    | .str x => (match u with
      | .str y _ => decide (x = y)
      | _ => false)
    | .tup ds => seqB' K "tuple" u (all2 (dB K n) ds)
    | .rol ds => seqB' K "list" u (all2 (dB K n) ds)
    | _ => false
theorem seqB_ok {K : PySem.W.Frag} {T : String} {u : Value} {p : List Value → Bool} (h : seqB' K T u p = true) : ∃ a o its n, u = .ref a ∧ K.lookup a = some o ∧ o.cls = .type T ∧ o.dict = none ∧ o.data = .seq its n ∧ its.size ≤ sizeLine ∧ p its.toList = true := by
  unfold seqB' at h
  split at h
  · rename_i a
    split at h
    · rename_i c its n sl e
      obtain ⟨h1, h2⟩ := Bool.and_eq_true_iff.mp h
      obtain ⟨h3, h4⟩ := Bool.and_eq_true_iff.mp h2
      exact ⟨a, _, its, n, rfl, e, congrArg Value.type (of_decide_eq_true h1), rfl, rfl, of_decide_eq_true h3, h4⟩
    · cases h
  · cases h
theorem all2_ok {L : Place} {f : D → Value → Bool} (hf : ∀ d u, f d u = true → ∃ v, RelV v u ∧ ∀ H μ, RD L H μ v d) : ∀ {ds : List D} {us : List Value}, all2 f ds us = true → ∃ vs, Vals vs us ∧ ∀ H μ, RDs L H μ vs ds
  | [], [], _ => ⟨[], .nil, fun _ _ => .nil⟩
  | [], _ :: _, h => by cases h
  | _ :: _, [], h => by cases h
  | d :: ds, u :: us, h => by
    obtain ⟨h1, h2⟩ := Bool.and_eq_true_iff.mp h
    obtain ⟨v, r1, r2⟩ := hf d u h1
    obtain ⟨vs, r3, r4⟩ := all2_ok hf h2
    exact ⟨v :: vs, .cons r1 r3, fun H μ => .cons (r2 H μ) (r4 H μ)⟩
theorem dB_ok {L : Place} : ∀ (n : Nat) (d : D) (u : Value), dB L.K n d u = true → ∃ v, RelV v u ∧ ∀ H μ, RD L H μ v d
  | 0, _, _, h => by cases h
  | n + 1, d, u, h => by
    cases d with
    | non =>
      cases u with
      | none => exact ⟨.non, rfl, fun _ _ => .non⟩
      | _ => cases h
    | bl b =>
      cases u with
      | bool c =>
        have e : b = c := eq_of_beq (show (b == c) = true from h)
        exact ⟨.bl b, by rw [e]; rfl, fun _ _ => .bl b⟩
      | _ => cases h
    | int i =>
      cases u with
      | int j t =>
        have e : i = j := of_decide_eq_true h
        exact ⟨.int i, ⟨t, by rw [e]⟩, fun _ _ => .int i⟩
      | _ => cases h
    | str x =>
      cases u with
      | str y t =>
        have e : x = y := of_decide_eq_true h
        exact ⟨.str x, ⟨t, by rw [e]⟩, fun _ _ => .str x⟩
      | _ => cases h
    | tup ds =>
      obtain ⟨a, o, its, m, rfl, e, hc, hd, hs, hz, hp⟩ := seqB_ok (show seqB' L.K "tuple" u (all2 (dB L.K n) ds) = true from h)
      obtain ⟨vs, r1, r2⟩ := all2_ok (fun d u => dB_ok n d u) hp
      exact ⟨.ref a, rfl, fun H μ => .tup (.inr ⟨o, its, m, e, hc, hd, hs, hz, r1⟩) (r2 H μ)⟩
    | rol ds =>
      obtain ⟨a, o, its, m, rfl, e, hc, hd, hs, hz, hp⟩ := seqB_ok (show seqB' L.K "list" u (all2 (dB L.K n) ds) = true from h)
      obtain ⟨vs, r1, r2⟩ := all2_ok (fun d u => dB_ok n d u) hp
      exact ⟨.ref a, rfl, fun H μ => .rol (.inr ⟨o, its, m, e, hc, hd, hs, hz, r1⟩) (r2 H μ)⟩
    | _ => cases h
/-- a constant of the module -/
def conB (K : PySem.W.Frag) (c : Str × D) : Bool := match PySem.W.nsIn K mainGlobals c.1 with
  | some (some u) => dB K 9 c.2 u
  | _ => false
theorem conB_ok {L : Place} {h : Heap} {mg : Str → Option Value} (X : L.K.In h) (G : h.Ns mainGlobals mg) {c : Str × D} (e : conB L.K c = true) : ∃ v u, mg c.1 = some u ∧ RelV v u ∧ ∀ H μ, RD L H μ v c.2 := by
  unfold conB at e
  split at e
  · rename_i u hu
    obtain ⟨v, r1, r2⟩ := dB_ok 9 c.2 u e
    exact ⟨v, u, PySem.W.mg_of X G hu, r1, r2⟩
  · cases e

/-! ### the Hook -/
def Df.dd (d : Df) : He.DefD := ⟨(d.name, none), d.name, d.name, d.args, d.body, d.scope, [], []⟩
def facts (ds : List Df) : List He.Fa := bltNames.map .free ++ ds.map fun d => .glo d.name
def obsM (ds : List Df) (cs : List (Str × D)) (K : PySem.W.Frag) : He.AlD := ((He.obsD (facts ds) (ds.map Df.dd) K).1 && cs.all (conB K), (He.obsD (facts ds) (ds.map Df.dd) K).2)
def SaysM (ds : List Df) (cs : List (Str × D)) (K : PySem.W.Frag) : Prop := obsM ds cs K = He.valD (ds.map Df.dd)
def obsMG (n : Nat) (ds : List Df) (cs : List (Str × D)) (g : Addr → Option Obj) : He.AlD := obsM ds cs (He.frG g (He.asD g n))
def hookM (n : Nat) (ds : List Df) (cs : List (Str × D)) : PySem.W.Hook where
  α := He.AlD
  obs := fun s => obsMG n ds cs s.heap.get?
  val := fun _ => He.valD (ds.map Df.dd)
  says := fun _ h => ∃ K : PySem.W.Frag, K.In h ∧ SaysM ds cs K
  of := fun _ _ e => ⟨_, He.frG_in, e⟩
  keeps := fun _ _ _ ⟨K, hK, c⟩ k => ⟨K, PySem.W.Frag.In.keeps hK k, c⟩
theorem obsMG_eq {n : Nat} {ds : List Df} {cs : List (Str × D)} {g : Addr → Option Obj} {s : Shared} (h : ∀ a, g a = s.heap.get? a) : obsMG n ds cs g = (hookM n ds cs).obs s := by
  have e : g = s.heap.get? := funext h
  rw [e] <;> rfl
/-- the names' meanings -/
def tabOf (ds : List Df) (cs : List (Str × D)) : Tab := (ds.zipIdx.map fun d => (d.1.name, G.fn d.2 d.1.ps.length)) ++ cs.map fun c => (c.1, G.con c.2)
def placeOf (K : PySem.W.Frag) (ds : List Df) : Place := ⟨K, fun i => match ds[i]? with
  | some d => He.ga K d.name
  | none => 0, fun _ => .none, fun _ => none⟩
theorem zip_at {α : Type} : ∀ {l : List α} {n : Nat} {x : α} {i : Nat}, (x, i) ∈ l.zipIdx n → n ≤ i ∧ l[i - n]? = some x
  | [], _, _, _, h => by simp at h
  | y :: l, n, x, i, h => by
    rw [List.zipIdx_cons] at h
    rcases List.mem_cons.mp h with e | h
    · cases e
      exact ⟨Nat.le_refl _, by rw [Nat.sub_self]; rfl⟩
    · obtain ⟨h1, h2⟩ := zip_at h
      refine ⟨by omega, ?_⟩
      have : i - n = (i - (n + 1)) + 1 := by omega
      rw [this]
      simpa using h2
theorem lookup_at {α : Type} {l : List (Str × α)} {x : Str} {v : α} (h : l.lookup x = some v) : (x, v) ∈ l := PySem.mem_of_lookup h
theorem mdl_of {h : Heap} {mg : Str → Option Value} {K : PySem.W.Frag} {ds : List Df} {cs : List (Str × D)} (X : K.In h) (G0 : h.Ns mainGlobals mg) (c : SaysM ds cs K)
    (hb : ∀ d ∈ ds, ∀ (kV doc pm : Value) (an : Option Addr) (cdv ct : Value) (us : List Value), us.length = d.ps.length → bindArgs (PySem.W.fnOf d.name d.name d.args d.body d.scope .none kV doc pm an cdv ct) ⟨us, []⟩ = pure (d.ps.zip us)) : Mdl (placeOf K ds) mg (tabOf ds cs) ds := by
  have c1 : ((He.obsD (facts ds) (ds.map Df.dd) K).1 && cs.all (conB K)) = true := congrArg (fun z : He.AlD => z.1) c
  have c2 : (He.obsD (facts ds) (ds.map Df.dd) K).2 = (ds.map Df.dd).map He.DefD.val := congrArg (fun z : He.AlD => z.2) c
  obtain ⟨c3, c4⟩ := Bool.and_eq_true_iff.mp c1
  have c5 : He.SaysD (facts ds) (ds.map Df.dd) K := Prod.ext c3 c2
  have fact : ∀ f ∈ facts ds, f.ok K = true := fun f hf => by
    obtain ⟨i, hi, e⟩ := List.getElem_of_mem hf
    exact c5.fact i (by rw [List.getElem?_eq_getElem hi, e])
  refine ⟨fun x hx => He.free_ok X G0 (fact (.free x) (List.mem_append_left _ (List.mem_map.mpr ⟨x, hx, rfl⟩))), fun x d ht => ?_, fun x i np ht => ?_, fun i d hd => ?_⟩
  · rcases List.mem_append.mp (lookup_at ht) with hm | hm
    · obtain ⟨q, _, e⟩ := List.mem_map.mp hm
      cases e
    · obtain ⟨q, hq, e⟩ := List.mem_map.mp hm
      cases e
      exact conB_ok (L := placeOf K ds) X G0 (List.all_eq_true.mp c4 q hq)
  · rcases List.mem_append.mp (lookup_at ht) with hm | hm
    · obtain ⟨⟨d, j⟩, hq, e⟩ := List.mem_map.mp hm
      cases e
      obtain ⟨_, h2⟩ := zip_at hq
      rw [Nat.sub_zero] at h2
      refine ⟨d, h2, ?_⟩
      have e2 : (placeOf K ds).fn j = He.ga K d.name := by
        show (match ds[j]? with
          | some d => He.ga K d.name
          | none => 0) = _
        rw [h2]
      rw [e2]
      exact He.glo_ok X G0 (fact (.glo d.name) (List.mem_append_right _ (List.mem_map.mpr ⟨d, List.mem_of_getElem? h2, rfl⟩)))
    · obtain ⟨q, _, e⟩ := List.mem_map.mp hm
      cases e
  · obtain ⟨fd, F⟩ := c5.def_ i (d := d.dd) (by rw [List.getElem?_map, hd]; rfl)
    have e2 : (placeOf K ds).fn i = He.fAd K (d.dd).at_ := by
      show (match ds[i]? with
        | some d => He.ga K d.name
        | none => 0) = _
      rw [hd]
      rfl
    rw [← e2] at F
    have F : FunD (placeOf K ds).K d.name d.name d.args d.body d.scope [] [] ((placeOf K ds).fn i) fd := F
    exact ⟨fd, F, F.bindsN fun kV doc pm an cdv ct us hl => hb d (List.mem_of_getElem? hd) kV doc pm an cdv ct us hl⟩
/-- a law's end -/
theorem walk_M {l : PySem.W.OpenLaw} {n k i : Nat} {q : Program} {loose : List Str} {XP : (Str → Option Value) → Heap → Prop} {YP : World → Heap → Prop} {d : DefRec} {ds : List Df} {cs : List (Str × D)} {fs : List FD} {dl : Df} {x : Str}
    (hn : l.most = some n) (hn2 : n ≤ sizeLine) (hdf : d.params.defaults = []) (hr : Room k callerA) (hname : d.name = dl.name) (hi : ds[i]? = some dl) (hps : dl.ps = [x]) (A : AllOk (tabOf ds cs) ds fs)
    (hY : ∀ w h, YP w h → ∃ K : PySem.W.Frag, K.In h ∧ SaysM ds cs K)
    (hb : ∀ d ∈ ds, ∀ (kV doc pm : Value) (an : Option Addr) (cdv ct : Value) (us : List Value), us.length = d.ps.length → bindArgs (PySem.W.fnOf d.name d.name d.args d.body d.scope .none kV doc pm an cdv ct) ⟨us, []⟩ = pure (d.ps.zip us))
    (law : ∀ ns : List Int, ns.length ≤ n → ∃ M, run fs k i [scr ns] [] = .ok (.bl true) M) :
    PySem.W.WalkO q loose XP YP l.row.toRowW d [] (fun f vs => PySem.call f vs) := by
  refine Att.attach_call hn hdf fun w s₀ s₁ mg mb fa o pm cd doc a vs ns G0 Y ho hd hcd hmg hobj hints hlen hg => ?_
  obtain ⟨K, KX, c⟩ := hY w _ Y
  have G := mdl_of KX G0.T.g c hb
  obtain ⟨fd, F, _⟩ := G.df i dl hi
  have c1 : ((He.obsD (facts ds) (ds.map Df.dd) K).1 && cs.all (conB K)) = true := congrArg (fun z : He.AlD => z.1) c
  have c2 : (He.obsD (facts ds) (ds.map Df.dd) K).2 = (ds.map Df.dd).map He.DefD.val := congrArg (fun z : He.AlD => z.2) c
  have c5 : He.SaysD (facts ds) (ds.map Df.dd) K := Prod.ext (Bool.and_eq_true_iff.mp c1).1 c2
  have efa : fa = (placeOf K ds).fn i := by
    have e2 : (placeOf K ds).fn i = He.ga K dl.name := by
      show (match ds[i]? with
        | some d => He.ga K d.name
        | none => 0) = _
      rw [hi]
    have hf : He.Fa.glo dl.name ∈ facts ds := List.mem_append_right _ (List.mem_map.mpr ⟨dl, List.mem_of_getElem? hi, rfl⟩)
    obtain ⟨j, hj, e⟩ := List.getElem_of_mem hf
    have e3 := He.glo_ok KX G0.T.g (c5.fact j (by rw [List.getElem?_eq_getElem hj, e]))
    rw [hname, e3] at hmg
    rw [e2]
    cases hmg
    rfl
  subst efa
  have bnd : ∀ (s : Shared) (u : Value), BindsTo s fd ⟨[u], []⟩ [(x, u)] := fun s u => by
    have z := F.bindsA (ps := dl.ps) (fun kV doc pm an cdv ct us hl => hb dl (List.mem_of_getElem? hi) kV doc pm an cdv ct us hl) s [u] (by rw [hps]; rfl)
    rw [hps] at z
    exact z
  refine call_law (L := placeOf K ds) KX G0.T.g G0.T.b G0.T.builtins G0.T.nolimit hg hobj hints (Nat.le_trans hlen hn2) hr (fun base hKb hns => ?_) bnd (law ns hlen)
  have z := all_does (P := l.prog) (w := w) (base := base) A G k i dl hi fd F
  rw [hps] at z
  exact z
end Mi
end
section
set_option Elab.async false
set_option linter.all false
set_option maxRecDepth 100000
set_option maxHeartbeats 1000000
set_option exponentiation.threshold 20000
/-! MiT: tools for what the small Python computes. -/
namespace Mi
open PySem
section
variable {fs : List FD} {k i : Nat} {fd : FD} {ds : List D} {M : Mem}
theorem pure_roots : ∀ {ds : List D} {M : Mem}, pureL ds = true → roots ds M = some []
  | [], _, _ => rfl
  | d :: ds, M, h => by
    obtain ⟨h1, h2⟩ := Bool.and_eq_true_iff.mp (show (pureD d && pureL ds) = true from h)
    have ih := pure_roots (M := M) h2
    unfold roots
    cases d with
    | obj a => exact absurd h1 Bool.false_ne_true
    | _ => simp only [h1, if_true]; exact ih
theorem pure_renA : ∀ {ds : List D} (n : Nat), pureL ds = true → renA n ds = ds
  | [], _, _ => rfl
  | d :: ds, n, h => by
    obtain ⟨h1, h2⟩ := Bool.and_eq_true_iff.mp (show (pureD d && pureL ds) = true from h)
    have ih := pure_renA n h2
    unfold renA
    cases d with
    | obj a => exact absurd h1 Bool.false_ne_true
    | _ => simp only [ih]
/-- one call -/
theorem run_at (hf : fs[i]? = some fd) : run fs (k + 1) i ds M = iso (bodyR (run fs k) fd) ds M := by
  unfold run
  rw [hf]
theorem body_at {F : Fns} {r : Res D} (hl : ds.length = fd.np ∧ fd.np ≤ fd.nv) (h : (evSs F fd.body (startE fd.nv ds) M).res = r) : bodyR F fd ds M = r := by
  unfold bodyR
  rw [if_pos hl, h]
theorem iso_eq {R : List D → Mem → Res D} {as : List Nat} {r : Res D} (h1 : roots ds M = some as) (h2 : as.Nodup) (h3 : backR as M (R (renA 0 ds) (subM as M)) = some r) : iso R ds M = r := by
  unfold iso
  rw [h1]
  show (if as.Nodup then (match backR as M (R (renA 0 ds) (subM as M)) with
    | some r => r
    | none => R ds M) else R ds M) = r
  rw [if_pos h2, h3]
theorem back_p {as : List Nat} {d : D} {M' M2 : Mem} (hd : pureD d = true) (h : putB as 0 M' M = some M2) : backR as M (.ok d M') = some (.ok d M2) := by
  show (if pureD d = true then (putB as 0 M' M).map fun M2 => Res.ok d M2 else _) = _
  rw [if_pos hd, h]
  rfl
theorem back_l {as : List Nat} {j : Nat} {ys : List D} {M' M2 : Mem} (hj : as.length ≤ j) (hy : M'[j]? = some (.lst ys)) (hp : pureL ys = true) (h : putB as 0 M' M = some M2) : backR as M (.ok (.obj j) M') = some (.ok (.obj M2.length) (M2 ++ [.lst ys])) := by
  show (if as.length ≤ j then (match M'[j]? with
    | some (.lst ys) => if pureL ys = true then (putB as 0 M' M).map fun M2 => Res.ok (D.obj M2.length) (M2 ++ [.lst ys]) else none
    | _ => none) else none) = _
  rw [if_pos hj, hy]
  show (if pureL ys = true then (putB as 0 M' M).map fun M2 => Res.ok (D.obj M2.length) (M2 ++ [.lst ys]) else none) = _
  rw [if_pos hp, h]
  rfl
theorem put_one {a : Nat} {xs : List D} {M' : Mem} (h : M'[0]? = some (.lst xs)) (hp : pureL xs = true) : putB [a] 0 M' M = some (M.set a (.lst xs)) := by
  show (match M'[0]? with
    | some (.lst xs) => if pureL xs = true then putB [] (0 + 1) M' (M.set a (.lst xs)) else none
    | _ => none) = _
  rw [h]
  show (if pureL xs = true then putB [] (0 + 1) M' (M.set a (.lst xs)) else none) = _
  rw [if_pos hp]
  rfl
theorem roots_o {a : Nat} {xs : List D} (ha : M[a]? = some (.lst xs)) (hx : pureL xs = true) (hp : pureL ds = true) : roots (.obj a :: ds) M = some [a] := by
  show (match M[a]? with
    | some (.lst xs) => if pureL xs = true then (roots ds M).map (a :: ·) else none
    | _ => none) = _
  rw [ha]
  show (if pureL xs = true then (roots ds M).map (a :: ·) else none) = _
  rw [if_pos hx, pure_roots hp]
  rfl
theorem renA_o {a : Nat} (hp : pureL ds = true) : renA 0 (.obj a :: ds) = .obj 0 :: ds := by
  show D.obj 0 :: renA 1 ds = _
  rw [pure_renA 1 hp]
theorem subM_o {a : Nat} {xs : List D} (ha : M[a]? = some (.lst xs)) : subM [a] M = [.lst xs] := by
  unfold subM
  simp [ha]
/-- no lists handed over, none handed back -/
theorem run_pp {d : D} {G : Mem} (hf : fs[i]? = some fd) (hl : ds.length = fd.np ∧ fd.np ≤ fd.nv) (hp : pureL ds = true) (h : (evSs (run fs k) fd.body (startE fd.nv ds) []).res = .ok d G) (hd : pureD d = true) : run fs (k + 1) i ds M = .ok d M := by
  rw [run_at hf]
  refine iso_eq (pure_roots hp) List.nodup_nil ?_
  rw [pure_renA 0 hp, body_at (M := subM [] M) hl h]
  exact back_p hd rfl
/-- no lists handed over, a list handed back -/
theorem run_pl {j : Nat} {ys : List D} {G : Mem} (hf : fs[i]? = some fd) (hl : ds.length = fd.np ∧ fd.np ≤ fd.nv) (hp : pureL ds = true) (h : (evSs (run fs k) fd.body (startE fd.nv ds) []).res = .ok (.obj j) G) (hj : G[j]? = some (.lst ys)) (hy : pureL ys = true) :
    run fs (k + 1) i ds M = .ok (.obj M.length) (M ++ [.lst ys]) := by
  rw [run_at hf]
  refine iso_eq (pure_roots hp) List.nodup_nil ?_
  rw [pure_renA 0 hp, body_at (M := subM [] M) hl h]
  exact back_l (Nat.zero_le _) hj hy rfl
/-- one list handed over first -/
theorem run_op {a : Nat} {xs xs' : List D} {d : D} {G : Mem} (hf : fs[i]? = some fd) (ha : M[a]? = some (.lst xs)) (hx : pureL xs = true) (hp : pureL ds = true) (hl : (D.obj 0 :: ds).length = fd.np ∧ fd.np ≤ fd.nv)
    (h : (evSs (run fs k) fd.body (startE fd.nv (.obj 0 :: ds)) [.lst xs]).res = .ok d G) (hd : pureD d = true) (hg : G[0]? = some (.lst xs')) (hx' : pureL xs' = true) : run fs (k + 1) i (.obj a :: ds) M = .ok d (M.set a (.lst xs')) := by
  rw [run_at hf]
  refine iso_eq (roots_o ha hx hp) (by simp) ?_
  rw [renA_o hp, subM_o ha, body_at hl h]
  exact back_p hd (put_one hg hx')
/-- one list handed over first, a new list handed back -/
theorem run_ol {a j : Nat} {xs xs' ys : List D} {G : Mem} (hf : fs[i]? = some fd) (ha : M[a]? = some (.lst xs)) (hx : pureL xs = true) (hp : pureL ds = true) (hl : (D.obj 0 :: ds).length = fd.np ∧ fd.np ≤ fd.nv)
    (h : (evSs (run fs k) fd.body (startE fd.nv (.obj 0 :: ds)) [.lst xs]).res = .ok (.obj j) G) (hj1 : 1 ≤ j) (hj : G[j]? = some (.lst ys)) (hy : pureL ys = true) (hg : G[0]? = some (.lst xs')) (hx' : pureL xs' = true) :
    run fs (k + 1) i (.obj a :: ds) M = .ok (.obj M.length) (M.set a (.lst xs') ++ [.lst ys]) := by
  rw [run_at hf]
  refine iso_eq (roots_o ha hx hp) (by simp) ?_
  rw [renA_o hp, subM_o ha, body_at hl h, back_l hj1 hj hy (put_one hg hx'), List.length_set]
end

/-! ### fractions -/
/-- a fraction as the program keeps it -/
def fr (q : Rat) : D := .tup [.int q.num, .int (q.den : Int)]
theorem pure_fr (q : Rat) : pureD (fr q) = true := rfl
theorem fr_inj {p q : Rat} (h : fr p = fr q) : p = q := by
  unfold fr at h
  simp only [D.tup.injEq, List.cons.injEq, D.int.injEq, and_true] at h
  exact Rat.ext h.1 (by exact_mod_cast h.2)
theorem fr_divInt {t b : Int} (hb : 0 < b) : fr (Rat.divInt t b) = .tup [.int (t / (Int.gcd t b : Int)), .int (b / (Int.gcd t b : Int))] := by
  unfold fr
  rw [Rat.num_divInt, Rat.den_divInt, if_neg (by omega), Int.sign_eq_one_of_pos hb, Int.one_mul, Int.gcd_comm b t]
  congr 2
  congr 1
  congr 1
  rw [Int.natCast_ediv, Int.natAbs_of_nonneg (by omega)]
end Mi
end
section
set_option Elab.async false
set_option linter.all false
set_option maxRecDepth 100000
set_option maxHeartbeats 1000000
set_option exponentiation.threshold 20000
/-! MiU: the small Python's steps as rewriting; loops' rules. -/
namespace Mi
open PySem
section
variable {α β : Type} {a : α} {M : Mem} {x : Exn} {ρ : Env} {F : Fns}
@[simp] theorem bind_ok {f : α → Mem → Res β} : Res.bind (.ok a M) f = f a M := (rfl)
@[simp] theorem bind_bad {f : α → Mem → Res β} : Res.bind .bad f = .bad := (rfl)
@[simp] theorem bind_ex {f : α → Mem → Res β} : Res.bind (.ex x M) f = .ex x M := (rfl)
@[simp] theorem noex_ok : Res.noex (.ok a M) = .ok a M := (rfl)
@[simp] theorem out_ok {f : α → Mem → Out} : Res.out (.ok a M) ρ f = f a M := (rfl)
@[simp] theorem out_bad {f : α → Mem → Out} : Res.out .bad ρ f = .bad := (rfl)
@[simp] theorem next_nx {f : Env → Mem → Out} : Out.next (.nx ρ M) f = f ρ M := (rfl)
@[simp] theorem next_ret {d : D} {f : Env → Mem → Out} : Out.next (.ret d M) f = .ret d M := (rfl)
@[simp] theorem next_brk {f : Env → Mem → Out} : Out.next (.brk ρ M) f = .brk ρ M := (rfl)
@[simp] theorem next_cnt {f : Env → Mem → Out} : Out.next (.cnt ρ M) f = .cnt ρ M := (rfl)
@[simp] theorem next_bad {f : Env → Mem → Out} : Out.next .bad f = .bad := (rfl)
@[simp] theorem res_ret {d : D} : Out.res (.ret d M) = .ok d M := (rfl)
@[simp] theorem res_nx : Out.res (.nx ρ M) = .ok .non M := (rfl)
@[simp] theorem ofOpt_some : ofOpt (some a) M = .ok a M := (rfl)
@[simp] theorem ofOpt_none : ofOpt (none : Option α) M = .bad := (rfl)
def getV (o : Option (Option D)) (M : Mem) : Res D := match o with
  | some (some d) => .ok d M
  | _ => .bad
@[simp] theorem getV_some {d : D} : getV (some (some d)) M = .ok d M := (rfl)
variable {i j : Nat} {d : D} {e e1 e2 e3 : E} {es : Es} {op op' : Operator} {cp cq : CmpOp} {b : BF} {m : MF}
@[simp] theorem evE_var : evE F (.var i) ρ M = getV ρ[i]? M := (rfl)
@[simp] theorem evE_con : evE F (.con d) ρ M = .ok d M := (rfl)
@[simp] theorem evE_bin : evE F (.bin op e1 e2) ρ M = (evE F e1 ρ M).bind fun x M => (evE F e2 ρ M).bind fun y M => binop op x y M := (rfl)
@[simp] theorem evE_neg : evE F (.neg e) ρ M = (evE F e ρ M).bind fun x M => intR x fun i => .ok (.int (-i)) M := (rfl)
@[simp] theorem evE_not : evE F (.not e) ρ M = (test (evE F e ρ M)).bind fun b M => .ok (.bl (!b)) M := (rfl)
@[simp] theorem evE_tst : evE F (.tst e) ρ M = (evE F e ρ M).bind fun x M => ofOpt ((truth x M).map .bl) M := (rfl)
@[simp] theorem evE_cmp : evE F (.cmp cp e1 e2) ρ M = (evE F e1 ρ M).bind fun x M => (evE F e2 ρ M).bind fun y M => cmpop cp x y M := (rfl)
/-- behind a first comparison, a first operand -/
def onBl (z : D) (t f : Res D) : Res D := match z with
  | .bl true => t
  | .bl false => f
  | _ => .bad
@[simp] theorem onBl_t {t f : Res D} : onBl (.bl true) t f = t := (rfl)
@[simp] theorem onBl_f {t f : Res D} : onBl (.bl false) t f = f := (rfl)
theorem onBl_b {b : Bool} {t f : Res D} : onBl (.bl b) t f = if b = true then t else f := by cases b <;> rfl
@[simp] theorem evE_chn : evE F (.chn cp cq e1 e2 e3) ρ M = (evE F e1 ρ M).bind fun x M => (evE F e2 ρ M).bind fun y M => (cmpop cp x y M).bind fun z M => onBl z ((evE F e3 ρ M).bind fun w M => cmpop cq y w M) (.ok (.bl false) M) := (rfl)
@[simp] theorem evE_and : evE F (.and e1 e2) ρ M = (evE F e1 ρ M).bind fun x M => onBl x (evE F e2 ρ M) (.ok (.bl false) M) := (rfl)
@[simp] theorem evE_or : evE F (.or e1 e2) ρ M = (evE F e1 ρ M).bind fun x M => onBl x (.ok (.bl true) M) (evE F e2 ρ M) := (rfl)
@[simp] theorem evE_ite : evE F (.ite e1 e2 e3) ρ M = (test (evE F e1 ρ M)).bind fun t M => if t = true then evE F e2 ρ M else evE F e3 ρ M := (rfl)
@[simp] theorem evE_tup : evE F (.tup es) ρ M = (evEs F es ρ M).bind fun xs M => if xs.length ≤ LIM then .ok (.tup xs) M else .bad := (rfl)
@[simp] theorem evE_lst : evE F (.lst es) ρ M = (evEs F es ρ M).bind fun xs M => if xs.length ≤ LIM then alloc (.lst xs) M else .bad := (rfl)
@[simp] theorem evE_idx : evE F (.idx e1 e2) ρ M = (evE F e1 ρ M).bind fun x M => (evE F e2 ρ M).bind fun y M => idxD x y M := (rfl)
@[simp] theorem evE_slcA : evE F (.slcA e1) ρ M = (evE F e1 ρ M).bind fun x M => slcD x none none M := (rfl)
@[simp] theorem evE_slcF : evE F (.slcF e1 e2) ρ M = (evE F e1 ρ M).bind fun x M => (evE F e2 ρ M).bind fun l M => intR l fun l => slcD x (some l) none M := (rfl)
@[simp] theorem evE_slcT : evE F (.slcT e1 e2) ρ M = (evE F e1 ρ M).bind fun x M => (evE F e2 ρ M).bind fun l M => intR l fun l => slcD x none (some l) M := (rfl)
@[simp] theorem evE_slc3 {k : Nat} : evE F (.slc3 e1 k) ρ M = (evE F e1 ρ M).bind fun x M => slc3D k x M := (rfl)
@[simp] theorem evE_call : evE F (.call i es) ρ M = (evEs F es ρ M).bind fun xs M => F i xs M := (rfl)
@[simp] theorem evE_blt : evE F (.blt b es) ρ M = (evEs F es ρ M).bind fun xs M => blt b xs M := (rfl)
@[simp] theorem evE_mth : evE F (.mth m e es) ρ M = (evE F e ρ M).bind fun x M => if mthOk m x M = true then (evEs F es ρ M).bind fun xs M => mth m x xs M else .bad := (rfl)
@[simp] theorem evEs_nil : evEs F .nil ρ M = .ok [] M := (rfl)
@[simp] theorem evEs_cons : evEs F (.cons e es) ρ M = (evE F e ρ M).bind fun x M => (evEs F es ρ M).bind fun xs M => .ok (x :: xs) M := (rfl)
variable {p q : Int}
@[simp] theorem intR_int {f : Int → Res α} : intR (.int p) f = f p := (rfl)
@[simp] theorem b_add : binop .Add (.int p) (.int q) M = .ok (.int (p + q)) M := (rfl)
@[simp] theorem b_sub : binop .Sub (.int p) (.int q) M = .ok (.int (p - q)) M := (rfl)
theorem b_mul (h1 : p.natAbs < NUM) (h2 : q.natAbs < NUM) : binop .Mult (.int p) (.int q) M = .ok (.int (p * q)) M := by
  show (if p.natAbs < NUM ∧ q.natAbs < NUM then Res.ok (D.int (p * q)) M else .bad) = _
  rw [if_pos ⟨h1, h2⟩]
theorem b_div (h0 : 0 < q) (h1 : p.natAbs < NUM) (h2 : q.natAbs < NUM) : binop .FloorDiv (.int p) (.int q) M = .ok (.int (p / q)) M := by
  show (if 0 < q ∧ p.natAbs < NUM ∧ q.natAbs < NUM then Res.ok (D.int (p / q)) M else .bad) = _
  rw [if_pos ⟨h0, h1, h2⟩]
theorem b_mod (h0 : 0 < q) : binop .Mod (.int p) (.int q) M = .ok (.int (p % q)) M := by
  show (if 0 < q then Res.ok (D.int (p % q)) M else .bad) = _
  rw [if_pos h0]
@[simp] theorem test_bl {b : Bool} : test (.ok (.bl b) M) = .ok b M := (rfl)
@[simp] theorem test_bad : test .bad = .bad := (rfl)
@[simp] theorem truth_int : truth (.int p) M = some (p != 0) := (rfl)
@[simp] theorem truth_bl {b : Bool} : truth (.bl b) M = some b := (rfl)
@[simp] theorem truth_non : truth .non M = some false := (rfl)
@[simp] theorem truth_tup {xs : List D} : truth (.tup xs) M = some (!xs.isEmpty) := (rfl)
@[simp] theorem c_lt : cmpop .Lt (.int p) (.int q) M = .ok (.bl (decide (p < q))) M := (rfl)
@[simp] theorem c_le : cmpop .LtE (.int p) (.int q) M = .ok (.bl (decide (p ≤ q))) M := (rfl)
@[simp] theorem c_gt : cmpop .Gt (.int p) (.int q) M = .ok (.bl (decide (q < p))) M := (rfl)
@[simp] theorem c_ge : cmpop .GtE (.int p) (.int q) M = .ok (.bl (decide (q ≤ p))) M := (rfl)
@[simp] theorem c_eq : cmpop .Eq (.int p) (.int q) M = .ok (.bl (decide (p = q))) M := (rfl)
@[simp] theorem c_ne : cmpop .NotEq (.int p) (.int q) M = .ok (.bl (!decide (p = q))) M := (rfl)
@[simp] theorem c_seq {s t : Str} : cmpop .Eq (.str s) (.str t) M = .ok (.bl (decide (s = t))) M := (rfl)
@[simp] theorem c_sne {s t : Str} : cmpop .NotEq (.str s) (.str t) M = .ok (.bl (!decide (s = t))) M := (rfl)
@[simp] theorem c_isN : cmpop .Is d .non M = .ok (.bl (isNon d)) M := (rfl)
@[simp] theorem c_isNot : cmpop .IsNot d .non M = .ok (.bl (!isNon d)) M := (rfl)
@[simp] theorem isNon_int : isNon (.int p) = false := (rfl)
@[simp] theorem isNon_non : isNon .non = true := (rfl)
@[simp] theorem isNon_tup {xs : List D} : isNon (.tup xs) = false := (rfl)
variable {xs : List D} {d0 d1 d2 : D}
theorem item_nat {xs : List D} {i : Nat} (h : xs[i]? = some d) : item xs (i : Int) = some d := by
  have hl := (List.getElem?_eq_some_iff.mp h).1
  unfold item place
  rw [if_pos (by omega), if_pos (by omega)]
  simpa using h
@[simp] theorem ix0 : idxD (.tup (d0 :: xs)) (.int 0) M = .ok d0 M := by
  show ofOpt (item (d0 :: xs) ((0 : Nat) : Int)) M = _
  rw [item_nat (i := 0) rfl]
  rfl
@[simp] theorem ix1 : idxD (.tup (d0 :: d1 :: xs)) (.int 1) M = .ok d1 M := by
  show ofOpt (item (d0 :: d1 :: xs) ((1 : Nat) : Int)) M = _
  rw [item_nat (i := 1) rfl]
  rfl
theorem ix_nat {i : Nat} (h : xs[i]? = some d) : idxD (.tup xs) (.int i) M = .ok d M := by
  show ofOpt (item xs (i : Int)) M = _
  rw [item_nat h]
  rfl
theorem ix_lst {a i : Nat} (ha : M[a]? = some (.lst xs)) (h : xs[i]? = some d) : idxD (.obj a) (.int i) M = .ok d M := by
  have e : idxO (.obj a) (.int i) M = some d := by
    show ((items (.obj a) M).bind fun xs => item xs (i : Int)) = some d
    have e1 : items (.obj a) M = some xs := by
      show lstO M a = some xs
      unfold lstO
      rw [ha]
    rw [e1]
    exact item_nat h
  show ofOpt (idxO (.obj a) (.int i) M) M = _
  rw [e]
  rfl
@[simp] theorem bl_abs : blt .abs [.int p] M = .ok (.int (if p < 0 then -p else p)) M := (rfl)
@[simp] theorem bl_int : blt .int [.int p] M = .ok (.int p) M := (rfl)
@[simp] theorem bl_intb {b : Bool} : blt .int [.bl b] M = .ok (.int (if b then 1 else 0)) M := (rfl)
@[simp] theorem bl_max : blt .max [.int p, .int q] M = .ok (.int (if q > p then q else p)) M := (rfl)
@[simp] theorem bl_min : blt .min [.int p, .int q] M = .ok (.int (if q < p then q else p)) M := (rfl)
@[simp] theorem bl_len : blt .len [.tup xs] M = .ok (.int xs.length) M := (rfl)
@[simp] theorem bl_tupT : blt .tuple [.tup xs] M = .ok (.tup xs) M := (rfl)
@[simp] theorem bl_isInt {i : Int} : blt .isInt [.int i] M = .ok (.bl true) M := (rfl)
@[simp] theorem bl_isBool {i : Int} : blt .isBool [.int i] M = .ok (.bl false) M := (rfl)
@[simp] theorem bl_isTup : blt .isTuple [.tup xs] M = .ok (.bl true) M := (rfl)
theorem lst_o {a : Nat} (h : M[a]? = some (.lst xs)) : lstO M a = some xs := by
  unfold lstO
  rw [h]
theorem bl_len_o {a : Nat} (h : M[a]? = some (.lst xs)) : blt .len [.obj a] M = .ok (.int xs.length) M := by
  show ofOpt ((lstO M a).map fun ys => D.int ys.length) M = _
  rw [lst_o h]
  rfl
theorem bl_tuple_o {a : Nat} (h : M[a]? = some (.lst xs)) : blt .tuple [.obj a] M = .ok (.tup xs) M := by
  show (ofOpt (lstO M a) M).bind (fun ys _ => Res.ok (D.tup ys) M) = _
  rw [lst_o h]
  rfl
theorem bl_sum_o {a : Nat} {is : List Int} (h : M[a]? = some (.lst xs)) (hi : intsD xs = some is) : blt .sum [.obj a] M = .ok (.int is.sum) M := by
  show ofOpt ((lstO M a).bind fun ys => (intsD ys).map fun is => D.int is.sum) M = _
  rw [lst_o h]
  show ofOpt ((intsD xs).map fun is => D.int is.sum) M = _
  rw [hi]
  rfl
theorem bl_all_o {a : Nat} {bs : List Bool} (h : M[a]? = some (.lst xs)) (hi : boolsD xs = some bs) : blt .all [.obj a] M = .ok (.bl (bs.all id)) M := by
  show ofOpt ((lstO M a).bind fun ys => (boolsD ys).map fun bs => D.bl (bs.all id)) M = _
  rw [lst_o h]
  show ofOpt ((boolsD xs).map fun bs => D.bl (bs.all id)) M = _
  rw [hi]
  rfl
variable {s : S} {ss ss2 : Ss} {t : T}
@[simp] theorem evSs_nil : evSs F .nil ρ M = .nx ρ M := (rfl)
@[simp] theorem evSs_cons : evSs F (.cons s ss) ρ M = (evS F s ρ M).next fun ρ M => evSs F ss ρ M := (rfl)
def bindO (o : Option Env) (M : Mem) : Out := match o with
  | some ρ => .nx ρ M
  | none => .bad
@[simp] theorem bindO_some : bindO (some ρ) M = .nx ρ M := (rfl)
@[simp] theorem evS_asg : evS F (.asg t e) ρ M = (evE F e ρ M).out ρ fun d M => bindO (bindT t d ρ) M := (rfl)
@[simp] theorem evS_par : evS F (.par i j e1 e2) ρ M = (evE F e1 ρ M).out ρ fun x M => (evE F e2 ρ M).out ρ fun y M => if i < ρ.length ∧ j < ρ.length then .nx ((ρ.set i (some x)).set j (some y)) M else .bad := (rfl)
@[simp] theorem evS_ife : evS F (.ife e ss ss2) ρ M = (test (evE F e ρ M)).out ρ fun t M => if t = true then evSs F ss ρ M else evSs F ss2 ρ M := (rfl)
@[simp] theorem evS_ret : evS F (.ret e) ρ M = (evE F e ρ M).out ρ fun d M => .ret d M := (rfl)
@[simp] theorem evS_exp : evS F (.exp e) ρ M = (evE F e ρ M).out ρ fun _ M => .nx ρ M := (rfl)
@[simp] theorem evS_pas : evS F .pas ρ M = .nx ρ M := (rfl)
theorem evS_whl : evS F (.whl e ss) ρ M = whileLoop (fun ρ M => test (evE F e ρ M)) (evSs F ss) WF ρ M := rfl
@[simp] theorem bindT_nm {i : Nat} : bindT (.nm i) d ρ = if i < ρ.length ∧ isPr d = false then some (ρ.set i (some d)) else none := (rfl)
@[simp] theorem bindT_tup {ts : List T} : bindT (.tup ts) (.tup xs) ρ = bindTs ts xs ρ := (rfl)
@[simp] theorem bindT_pr {ts : List T} : bindT (.tup ts) (.pr xs) ρ = bindTs ts xs ρ := (rfl)
@[simp] theorem bindTs_nil : bindTs [] [] ρ = some ρ := (rfl)
@[simp] theorem bindTs_cons {ts : List T} {d : D} : bindTs (t :: ts) (d :: xs) ρ = (bindT t d ρ).bind fun ρ => bindTs ts xs ρ := by
  show (match bindT t d ρ with
    | some ρ' => bindTs ts xs ρ'
    | none => none) = _
  cases bindT t d ρ <;> rfl
@[simp] theorem isPr_int : isPr (.int p) = false := (rfl)
@[simp] theorem isPr_tup : isPr (.tup xs) = false := (rfl)
@[simp] theorem isPr_obj {a : Nat} : isPr (.obj a) = false := (rfl)
@[simp] theorem isPr_bl {b : Bool} : isPr (.bl b) = false := (rfl)
@[simp] theorem isPr_rol : isPr (.rol xs) = false := (rfl)
@[simp] theorem isPr_fr {q : Rat} : isPr (fr q) = false := (rfl)
@[simp] theorem pure_int : pureD (.int p) = true := (rfl)
@[simp] theorem pure_bl {b : Bool} : pureD (.bl b) = true := (rfl)
@[simp] theorem pure_non : pureD .non = true := (rfl)
@[simp] theorem pure_str {s : Str} : pureD (.str s) = true := (rfl)
@[simp] theorem pure_tup : pureD (.tup xs) = pureL xs := (rfl)
@[simp] theorem pure_rol : pureD (.rol xs) = pureL xs := (rfl)
@[simp] theorem pure_nil : pureL [] = true := (rfl)
@[simp] theorem pure_cons {d : D} : pureL (d :: xs) = (pureD d && pureL xs) := (rfl)
end
/-! ### loops -/
theorem while_rule {c : Env → Mem → Res Bool} {b : Env → Mem → Out} (P : Env → Mem → Prop) (Q : Env → Mem → Prop) (m : Env → Mem → Nat)
    (h : ∀ ρ M, P ρ M → (c ρ M = .ok false M ∧ Q ρ M) ∨ (c ρ M = .ok true M ∧ ∃ ρ' M', b ρ M = .nx ρ' M' ∧ P ρ' M' ∧ m ρ' M' < m ρ M)) : ∀ (n : Nat) (ρ : Env) (M : Mem), P ρ M → m ρ M < n → ∃ ρ' M', whileLoop c b n ρ M = .nx ρ' M' ∧ Q ρ' M'
  | 0, _, _, _, hm => absurd hm (Nat.not_lt_zero _)
  | n + 1, ρ, M, hp, hm => by
    unfold whileLoop
    rcases h ρ M hp with ⟨h1, h2⟩ | ⟨h1, ρ', M', h2, h3, h4⟩
    · exact ⟨ρ, M, by rw [h1]; rfl, h2⟩
    · obtain ⟨ρ2, M2, h5, h6⟩ := while_rule P Q m h n ρ' M' h3 (by omega)
      refine ⟨ρ2, M2, ?_, h6⟩
      rw [h1]
      show (match b ρ M with
        | .nx ρ M => whileLoop c b n ρ M
        | .cnt ρ M => whileLoop c b n ρ M
        | .brk ρ M => .nx ρ M
        | .ret d M => .ret d M
        | .ex x ρ M => .ex x ρ M
        | .bad => .bad) = _
      rw [h2]
      exact h5
/-- a for loop through xs; P by the turn -/
theorem for_rule {t : T} {b : Env → Mem → Out} {sr : Sr} {xs : List D} (P : Nat → Env → Mem → Prop) (hat : ∀ i ρ M, P i ρ M → i ≤ xs.length → sr.at i M = some xs[i]?)
    (h : ∀ i d ρ M, xs[i]? = some d → P i ρ M → ∃ ρ1 ρ' M', bindT t d ρ = some ρ1 ∧ (b ρ1 M = .nx ρ' M' ∨ b ρ1 M = .cnt ρ' M') ∧ P (i + 1) ρ' M') :
    ∀ (n i : Nat) (ρ : Env) (M : Mem), P i ρ M → i ≤ xs.length → xs.length < n + i → ∃ ρ' M', forLoop t b n sr i ρ M = .nx ρ' M' ∧ P xs.length ρ' M'
  | 0, i, ρ, M, hp, h1, h2 => by omega
  | n + 1, i, ρ, M, hp, h1, h2 => by
    unfold forLoop
    rw [hat i ρ M hp h1]
    by_cases hi : i < xs.length
    · rw [List.getElem?_eq_getElem hi]
      obtain ⟨ρ1, ρ', M', e1, e2, e3⟩ := h i _ ρ M (List.getElem?_eq_getElem hi) hp
      obtain ⟨ρ2, M2, e4, e5⟩ := for_rule P hat h n (i + 1) ρ' M' e3 (by omega) (by omega)
      refine ⟨ρ2, M2, ?_, e5⟩
      show (match bindT t xs[i] ρ with
        | none => Out.bad
        | some ρ => match b ρ M with
          | .nx ρ M => forLoop t b n sr (i + 1) ρ M
          | .cnt ρ M => forLoop t b n sr (i + 1) ρ M
          | .brk ρ M => .nx ρ M
          | .ret d M => .ret d M
          | .ex x ρ M => .ex x ρ M
          | .bad => .bad) = _
      rw [e1]
      rcases e2 with e2 | e2
      · show (match b ρ1 M with
          | .nx ρ M => forLoop t b n sr (i + 1) ρ M
          | .cnt ρ M => forLoop t b n sr (i + 1) ρ M
          | .brk ρ M => .nx ρ M
          | .ret d M => .ret d M
          | .ex x ρ M => .ex x ρ M
          | .bad => .bad) = _
        rw [e2]
        exact e4
      · show (match b ρ1 M with
          | .nx ρ M => forLoop t b n sr (i + 1) ρ M
          | .cnt ρ M => forLoop t b n sr (i + 1) ρ M
          | .brk ρ M => .nx ρ M
          | .ret d M => .ret d M
          | .ex x ρ M => .ex x ρ M
          | .bad => .bad) = _
        rw [e2]
        exact e4
    · have e : i = xs.length := by omega
      rw [List.getElem?_eq_none (by omega)]
      subst e
      exact ⟨ρ, M, rfl, hp⟩
/-- a comprehension through xs: the items that p lets through, each by f; P by the turn -/
theorem lc_rule {t : T} {ρ : Env} {c : Env → Mem → Res Bool} {elt : Env → Mem → Res D} {sr : Sr} {xs : List D} (f : Nat → D → D) (p : Nat → D → Bool) (P : Nat → Mem → Prop) (hat : ∀ i M, P i M → i ≤ xs.length → sr.at i M = some xs[i]?) (hl : xs.length ≤ LIM)
    (h : ∀ i d M, xs[i]? = some d → P i M → ∃ ρ1 M1, bindT t d ρ = some ρ1 ∧ c ρ1 M = .ok (p i d) M1 ∧ (p i d = true → ∃ M2, elt ρ1 M1 = .ok (f i d) M2 ∧ P (i + 1) M2) ∧ (p i d = false → P (i + 1) M1)) :
    ∀ (n i : Nat) (acc : List D) (M : Mem), P i M → i ≤ xs.length → xs.length < n + i → acc.length ≤ i → ∃ M', lcLoop t ρ c elt n sr i acc M = .ok (acc ++ (((xs.drop i).zipIdx i).filter fun d => p d.2 d.1).map fun d => f d.2 d.1) M' ∧ P xs.length M'
  | 0, i, acc, M, hp, h1, h2, _ => by omega
  | n + 1, i, acc, M, hp, h1, h2, h3 => by
    unfold lcLoop
    rw [hat i M hp h1]
    by_cases hi : i < xs.length
    · rw [List.getElem?_eq_getElem hi]
      obtain ⟨ρ1, M1, e1, e2, e3, e4⟩ := h i _ M (List.getElem?_eq_getElem hi) hp
      simp only [e1]
      rw [e2, bind_ok, List.drop_eq_getElem_cons hi, List.zipIdx_cons]
      cases hb : p i xs[i] with
      | false =>
        rw [if_neg Bool.false_ne_true, List.filter_cons, if_neg (by simp [hb])]
        exact lc_rule f p P hat hl h n (i + 1) acc M1 (e4 hb) (by omega) (by omega) (by omega)
      | true =>
        obtain ⟨M2, e5, e6⟩ := e3 hb
        rw [if_pos rfl, e5, bind_ok, if_pos (by omega), List.filter_cons, if_pos (by simp [hb]), List.map_cons]
        obtain ⟨M', e7, e8⟩ := lc_rule f p P hat hl h n (i + 1) (acc ++ [f i xs[i]]) M2 e6 (by omega) (by omega) (by simp; omega)
        exact ⟨M', by rw [e7, List.append_assoc]; rfl, e8⟩
    · have e : i = xs.length := by omega
      rw [List.getElem?_eq_none (by omega)]
      subst e
      exact ⟨M, by simp, hp⟩
end Mi
end
section
set_option Elab.async false
set_option linter.all false
set_option maxRecDepth 100000
set_option maxHeartbeats 1000000
set_option exponentiation.threshold 20000
/-! MiX: the defs that many laws share: greatest divisors, fractions. -/
namespace Mi
open PySem
theorem num_big {n : Nat} (h : n < 2 ^ 4000) : n < NUM := Nat.lt_of_lt_of_le h (Nat.pow_le_pow_right (by decide) (by decide))
theorem abs_nat (a : Int) : (if a < 0 then -a else a) = ((a.natAbs : Nat) : Int) := by
  split <;> omega
/-- while right: left, right = right, left % right -/
theorem gcd_while {F : Fns} {M : Mem} {x y : Option D} {a b : Nat} (h : b < NUM) :
    evS F (.whl (.tst (.var 3)) (.cons (.par 2 3 (.var 3) (.bin .Mod (.var 2) (.var 3))) .nil)) [x, y, some (.int a), some (.int b)] M = .nx [x, y, some (.int (Nat.gcd a b : Nat)), some (.int 0)] M := by
  obtain ⟨ρ', M', e, h1, h2⟩ := while_rule (c := fun ρ M => test (evE F (.tst (.var 3)) ρ M)) (b := evSs F (.cons (.par 2 3 (.var 3) (.bin .Mod (.var 2) (.var 3))) .nil))
    (fun ρ M' => M' = M ∧ ∃ c d : Nat, ρ = [x, y, some (.int c), some (.int d)] ∧ Nat.gcd c d = Nat.gcd a b) (fun ρ M' => M' = M ∧ ρ = [x, y, some (.int (Nat.gcd a b : Nat)), some (.int 0)])
    (fun ρ _ => match ρ with | [_, _, _, some (.int d)] => d.toNat | _ => 0) (fun ρ M' ⟨hM, c, d, hρ, hg⟩ => by
      subst hM hρ
      by_cases hd : d = 0
      · subst hd
        left
        rw [Nat.gcd_zero_right] at hg
        subst hg
        exact ⟨by simp, rfl, rfl⟩
      · right
        have h1 : ((d : Int) != 0) = true := by simpa using hd
        refine ⟨by simp [hd], [x, y, some (.int d), some (.int ((c % d : Nat) : Int))], M', ?_, ⟨rfl, d, c % d, rfl, ?_⟩, ?_⟩
        · have e : binop .Mod (.int (c : Int)) (.int (d : Int)) M' = .ok (.int ((c % d : Nat) : Int)) M' := by
            rw [b_mod (by omega)]
            simp
          simp [e]
        · rw [← hg, Nat.gcd_comm c d, Nat.gcd_rec d c, Nat.gcd_comm]
        · have := Nat.mod_lt c (Nat.pos_of_ne_zero hd)
          simp
          omega) WF [x, y, some (.int a), some (.int b)] M ⟨rfl, a, b, rfl, rfl⟩ (by simpa using (show b < WF from h))
  subst h1 h2
  rw [evS_whl]
  exact e
theorem gcd_whileL {F : Fns} {M : Mem} {a b : Nat} (h : b < NUM) :
    evS F (.whl (.cmp .Gt (.var 1) (.con (.int 0))) (.cons (.par 0 1 (.var 1) (.bin .Mod (.blt .int (.cons (.var 0) .nil)) (.var 1))) .nil)) [some (.int a), some (.int b)] M = .nx [some (.int (Nat.gcd a b : Nat)), some (.int 0)] M := by
  obtain ⟨ρ', M', e, h1, h2⟩ := while_rule (c := fun ρ M => test (evE F (.cmp .Gt (.var 1) (.con (.int 0))) ρ M)) (b := evSs F (.cons (.par 0 1 (.var 1) (.bin .Mod (.blt .int (.cons (.var 0) .nil)) (.var 1))) .nil))
    (fun ρ M' => M' = M ∧ ∃ c d : Nat, ρ = [some (.int c), some (.int d)] ∧ Nat.gcd c d = Nat.gcd a b) (fun ρ M' => M' = M ∧ ρ = [some (.int (Nat.gcd a b : Nat)), some (.int 0)])
    (fun ρ _ => match ρ with | [_, some (.int d)] => d.toNat | _ => 0) (fun ρ M' ⟨hM, c, d, hρ, hg⟩ => by
      subst hM hρ
      by_cases hd : d = 0
      · subst hd
        left
        rw [Nat.gcd_zero_right] at hg
        subst hg
        exact ⟨by simp, rfl, rfl⟩
      · right
        have h1 : decide ((0 : Int) < d) = true := decide_eq_true (by omega)
        refine ⟨by simp; omega, [some (.int d), some (.int ((c % d : Nat) : Int))], M', ?_, ⟨rfl, d, c % d, rfl, ?_⟩, ?_⟩
        · have e : binop .Mod (.int (c : Int)) (.int (d : Int)) M' = .ok (.int ((c % d : Nat) : Int)) M' := by
            rw [b_mod (by omega)]
            simp
          simp [e]
        · rw [← hg, Nat.gcd_comm c d, Nat.gcd_rec d c, Nat.gcd_comm]
        · have := Nat.mod_lt c (Nat.pos_of_ne_zero hd)
          simp
          omega) WF [some (.int a), some (.int b)] M ⟨rfl, a, b, rfl, rfl⟩ (by simpa using (show b < WF from h))
  subst h1 h2
  rw [evS_whl]
  exact e
section
variable {fs : List FD} {n i j : Nat} {M : Mem} {a b : Int} {p q : Rat}
abbrev f_divisor : FD := ⟨2, 4, .cons (.par 2 3 (.blt .abs (.cons (.var 0) .nil)) (.blt .abs (.cons (.var 1) .nil))) (.cons (.whl (.tst (.var 3)) (.cons (.par 2 3 (.var 3) (.bin .Mod (.var 2) (.var 3))) .nil)) (.cons (.ret (.var 2)) .nil))⟩
theorem s_divisor (hf : fs[i]? = some f_divisor) (hn : 1 ≤ n) (hb : b.natAbs < NUM) : run fs n i [.int a, .int b] M = .ok (.int (Int.gcd a b : Nat)) M := by
  obtain ⟨n, rfl⟩ : ∃ m, n = m + 1 := ⟨n - 1, by omega⟩
  refine run_pp (G := []) hf ⟨rfl, by first | exact Nat.le_refl _ | exact Nat.le_succ _ | (show 2 ≤ 4; decide)⟩ rfl ?_ rfl
  show (evSs _ (.cons _ (.cons _ (.cons _ .nil))) [some (.int a), some (.int b), none, none] []).res = _
  simp only [evSs_cons, evS_par, evE_blt, evEs_cons, evE_var, evEs_nil, bind_ok, getV_some, List.getElem?_cons_zero, List.getElem?_cons_succ, bl_abs, out_ok, abs_nat]
  simp only [List.length_cons, List.length_nil, List.set_cons_succ, List.set_cons_zero]
  rw [if_pos ⟨by decide, by decide⟩, next_nx, gcd_while hb]
  rfl
abbrev f_divisorL : FD := ⟨2, 2, .cons (.par 0 1 (.blt .abs (.cons (.var 0) .nil)) (.blt .abs (.cons (.var 1) .nil))) (.cons (.whl (.cmp .Gt (.var 1) (.con (.int 0))) (.cons (.par 0 1 (.var 1) (.bin .Mod (.blt .int (.cons (.var 0) .nil)) (.var 1))) .nil)) (.cons (.ret (.var 0)) .nil))⟩
theorem s_divisorL (hf : fs[i]? = some f_divisorL) (hn : 1 ≤ n) (hb : b.natAbs < NUM) : run fs n i [.int a, .int b] M = .ok (.int (Int.gcd a b : Nat)) M := by
  obtain ⟨n, rfl⟩ : ∃ m, n = m + 1 := ⟨n - 1, by omega⟩
  refine run_pp (G := []) hf ⟨rfl, by first | exact Nat.le_refl _ | exact Nat.le_succ _ | (show 2 ≤ 4; decide)⟩ rfl ?_ rfl
  show (evSs _ (.cons _ (.cons _ (.cons _ .nil))) [some (.int a), some (.int b)] []).res = _
  simp only [evSs_cons, evS_par, evE_blt, evEs_cons, evE_var, evEs_nil, bind_ok, getV_some, List.getElem?_cons_zero, List.getElem?_cons_succ, bl_abs, out_ok, abs_nat]
  simp only [List.length_cons, List.length_nil, List.set_cons_succ, List.set_cons_zero]
  rw [if_pos ⟨by decide, by decide⟩, next_nx, gcd_whileL hb]
  rfl
theorem gcd_le {a b : Int} (hb : 0 < b) : 0 < (Int.gcd a b : Int) ∧ (Int.gcd a b : Int) ≤ b := by
  have h1 : Int.gcd a b ∣ b.natAbs := Nat.gcd_dvd_right a.natAbs b.natAbs
  have h2 := Nat.le_of_dvd (by omega) h1
  have h3 : 0 < Int.gcd a b := Int.gcd_pos_of_ne_zero_right a (by omega)
  omega
abbrev f_fraction (j : Nat) : FD := ⟨2, 3, .cons (.asg (.nm 2) (.bin .Mult (.call j (.cons (.var 0) (.cons (.var 1) .nil))) (.ite (.cmp .Gt (.var 1) (.con (.int 0))) (.con (.int 1)) (.neg (.con (.int 1)))))) (.cons (.ret (.tup (.cons (.bin .FloorDiv (.var 0) (.var 2)) (.cons (.bin .FloorDiv (.var 1) (.var 2)) .nil)))) .nil)⟩
/-- fraction(a, b), by whichever greatest divisor -/
theorem s_fraction (hf : fs[i]? = some (f_fraction j)) (hg : ∀ n, 1 ≤ n → ∀ M, run fs n j [.int a, .int b] M = .ok (.int (Int.gcd a b : Nat)) M) (hn : 2 ≤ n) (hb : 0 < b) (ha : a.natAbs < NUM) (hb2 : b.natAbs < NUM) :
    run fs n i [.int a, .int b] M = .ok (fr (Rat.divInt a b)) M := by
  obtain ⟨n, rfl⟩ : ∃ m, n = m + 1 := ⟨n - 1, by omega⟩
  refine run_pp (G := []) hf ⟨rfl, by first | exact Nat.le_refl _ | exact Nat.le_succ _ | (show 2 ≤ 4; decide)⟩ rfl ?_ rfl
  obtain ⟨g1, g2⟩ := gcd_le (a := a) hb
  have e1 : binop .Mult (.int (Int.gcd a b : Nat)) (.int 1) [] = .ok (.int (Int.gcd a b : Nat)) [] := by
    rw [b_mul (by omega) (num_big (by decide)), Int.mul_one]
  have e2 : binop .FloorDiv (.int a) (.int (Int.gcd a b : Nat)) [] = .ok (.int (a / (Int.gcd a b : Nat))) [] := b_div g1 ha (by omega)
  have e3 : binop .FloorDiv (.int b) (.int (Int.gcd a b : Nat)) [] = .ok (.int (b / (Int.gcd a b : Nat))) [] := b_div g1 hb2 (by omega)
  have hd : decide (0 < b) = true := decide_eq_true hb
  show (evSs _ (.cons _ (.cons _ .nil)) [some (.int a), some (.int b), none] []).res = _
  rw [fr_divInt hb]
  simp [hg n (by omega), hd, e1, e2, e3, LIM]

/-- a fraction of so many bits -/
def Bd (b : Nat) (q : Rat) : Prop := q.num.natAbs < 2 ^ b ∧ q.den < 2 ^ b
theorem Bd.mono {b c : Nat} (h : Bd b q) (l : b ≤ c) : Bd c q := ⟨Nat.lt_of_lt_of_le h.1 (Nat.pow_le_pow_right (by decide) l), Nat.lt_of_lt_of_le h.2 (Nat.pow_le_pow_right (by decide) l)⟩
theorem bits_mul {x y b c : Nat} (h : x < 2 ^ b) (k : y < 2 ^ c) : x * y < 2 ^ (b + c) := by
  rw [Nat.pow_add]
  exact Nat.mul_lt_mul'' h k
theorem bits_num {x b : Nat} (h : x < 2 ^ b) (hb : b ≤ 8000) : x < NUM := Nat.lt_of_lt_of_le h (Nat.pow_le_pow_right (by decide) hb)
theorem divInt_bd {t d : Int} {b : Nat} (hd : 0 < d) (h1 : t.natAbs < 2 ^ b) (h2 : d.natAbs < 2 ^ b) : Bd b (Rat.divInt t d) := by
  refine ⟨?_, ?_⟩
  · rw [Rat.num_divInt, Int.sign_eq_one_of_pos hd, Int.one_mul]
    exact Nat.lt_of_le_of_lt (Int.natAbs_ediv_le_natAbs t (d.gcd t)) h1
  · rw [Rat.den_divInt, if_neg (by omega)]
    exact Nat.lt_of_le_of_lt (Nat.div_le_self _ _) h2
theorem add_bd {b : Nat} (hp : Bd b p) (hq : Bd b q) : Bd (2 * b + 1) (p + q) := by
  rw [Rat.add_def', ← Rat.divInt_ofNat]
  have d1 := Rat.den_pos p
  have d2 := Rat.den_pos q
  have e1 := bits_mul hp.1 hq.2
  have e2 := bits_mul hq.1 hp.2
  have e3 := bits_mul hp.2 hq.2
  have e4 : 2 ^ (2 * b + 1) = 2 ^ (b + b) + 2 ^ (b + b) := by rw [show 2 * b + 1 = (b + b) + 1 by omega, Nat.pow_succ]; omega
  refine divInt_bd (by have := Nat.mul_pos d1 d2; omega) ?_ ?_
  · have h := Int.natAbs_add_le (p.num * (q.den : Int)) (q.num * (p.den : Int))
    rw [Int.natAbs_mul, Int.natAbs_mul, Int.natAbs_natCast, Int.natAbs_natCast] at h
    omega
  · rw [Int.natAbs_natCast]
    omega
theorem add_bd2 {b c : Nat} (hp : Bd b p) (hq : Bd c q) : Bd (b + c + 1) (p + q) := by
  rw [Rat.add_def', ← Rat.divInt_ofNat]
  have d1 := Rat.den_pos p
  have d2 := Rat.den_pos q
  have e1 := bits_mul hp.1 hq.2
  have e2 := bits_mul hq.1 hp.2
  have e3 := bits_mul hp.2 hq.2
  rw [Nat.add_comm c b] at e2
  have e4 : 2 ^ (b + c + 1) = 2 ^ (b + c) + 2 ^ (b + c) := by rw [Nat.pow_succ]; omega
  refine divInt_bd (by have := Nat.mul_pos d1 d2; omega) ?_ ?_
  · have h := Int.natAbs_add_le (p.num * (q.den : Int)) (q.num * (p.den : Int))
    rw [Int.natAbs_mul, Int.natAbs_mul, Int.natAbs_natCast, Int.natAbs_natCast] at h
    omega
  · rw [Int.natAbs_natCast]
    omega
theorem mul_bd2 {b c : Nat} (hp : Bd b p) (hq : Bd c q) : Bd (b + c) (p * q) := by
  rw [Rat.mul_def', ← Rat.divInt_ofNat]
  have d1 := Rat.den_pos p
  have d2 := Rat.den_pos q
  have e1 := bits_mul hp.1 hq.1
  have e3 := bits_mul hp.2 hq.2
  refine divInt_bd (by have := Nat.mul_pos d1 d2; omega) ?_ ?_
  · rw [Int.natAbs_mul]
    exact e1
  · rw [Int.natAbs_natCast]
    exact e3
theorem neg_bd {b : Nat} (hp : Bd b p) : Bd b (-p) := ⟨by rw [Rat.neg_num, Int.natAbs_neg]; exact hp.1, by rw [Rat.neg_den]; exact hp.2⟩
theorem sub_bd {b : Nat} (hp : Bd b p) (hq : Bd b q) : Bd (2 * b + 1) (p - q) := by
  rw [Rat.sub_eq_add_neg]
  exact add_bd hp (neg_bd hq)
theorem sub_bd2 {b c : Nat} (hp : Bd b p) (hq : Bd c q) : Bd (b + c + 1) (p - q) := by
  rw [Rat.sub_eq_add_neg]
  exact add_bd2 hp (neg_bd hq)
theorem mul_bd {b : Nat} (hp : Bd b p) (hq : Bd b q) : Bd (2 * b) (p * q) := by
  rw [Rat.mul_def', ← Rat.divInt_ofNat]
  have d1 := Rat.den_pos p
  have d2 := Rat.den_pos q
  have e1 := bits_mul hp.1 hq.1
  have e3 := bits_mul hp.2 hq.2
  rw [show 2 * b = b + b by omega]
  refine divInt_bd (by have := Nat.mul_pos d1 d2; omega) ?_ ?_
  · rw [Int.natAbs_mul]
    exact e1
  · rw [Int.natAbs_natCast]
    exact e3
/-- what fraction does for every a, b -/
def Frac (fs : List FD) (n i : Nat) : Prop := ∀ (a b : Int) (M : Mem), 0 < b → a.natAbs < NUM → b.natAbs < NUM → run fs n i [.int a, .int b] M = .ok (fr (Rat.divInt a b)) M
theorem frac_of (hf : fs[i]? = some (f_fraction j)) (hg : fs[j]? = some f_divisor ∨ fs[j]? = some f_divisorL) (hn : 2 ≤ n) : Frac fs n i := fun a b M hb ha hb2 =>
  s_fraction hf (fun n hn M => hg.elim (fun h => s_divisor h hn hb2) fun h => s_divisorL h hn hb2) hn hb ha hb2
abbrev f_plus (j : Nat) : FD := ⟨2, 2, .cons (.ret (.call j (.cons (.bin .Add (.bin .Mult (.idx (.var 0) (.con (.int 0))) (.idx (.var 1) (.con (.int 1)))) (.bin .Mult (.idx (.var 1) (.con (.int 0))) (.idx (.var 0) (.con (.int 1))))) (.cons (.bin .Mult (.idx (.var 0) (.con (.int 1))) (.idx (.var 1) (.con (.int 1)))) .nil)))) .nil⟩
abbrev f_minus (j : Nat) : FD := ⟨2, 2, .cons (.ret (.call j (.cons (.bin .Sub (.bin .Mult (.idx (.var 0) (.con (.int 0))) (.idx (.var 1) (.con (.int 1)))) (.bin .Mult (.idx (.var 1) (.con (.int 0))) (.idx (.var 0) (.con (.int 1))))) (.cons (.bin .Mult (.idx (.var 0) (.con (.int 1))) (.idx (.var 1) (.con (.int 1)))) .nil)))) .nil⟩
abbrev f_times (j : Nat) : FD := ⟨2, 2, .cons (.ret (.call j (.cons (.bin .Mult (.idx (.var 0) (.con (.int 0))) (.idx (.var 1) (.con (.int 0)))) (.cons (.bin .Mult (.idx (.var 0) (.con (.int 1))) (.idx (.var 1) (.con (.int 1)))) .nil)))) .nil⟩
abbrev f_less : FD := ⟨2, 2, .cons (.ret (.cmp .Lt (.bin .Mult (.idx (.var 0) (.con (.int 0))) (.idx (.var 1) (.con (.int 1)))) (.bin .Mult (.idx (.var 1) (.con (.int 0))) (.idx (.var 0) (.con (.int 1)))))) .nil⟩
abbrev f_most : FD := ⟨2, 2, .cons (.ret (.cmp .LtE (.bin .Mult (.idx (.var 0) (.con (.int 0))) (.idx (.var 1) (.con (.int 1)))) (.bin .Mult (.idx (.var 1) (.con (.int 0))) (.idx (.var 0) (.con (.int 1)))))) .nil⟩
theorem cross {b : Nat} (hb : b ≤ 3000) (hp : Bd b p) (hq : Bd b q) : p.num.natAbs < NUM ∧ q.num.natAbs < NUM ∧ (p.den : Int).natAbs < NUM ∧ (q.den : Int).natAbs < NUM :=
  ⟨bits_num hp.1 (by omega), bits_num hq.1 (by omega), by rw [Int.natAbs_natCast]; exact bits_num hp.2 (by omega), by rw [Int.natAbs_natCast]; exact bits_num hq.2 (by omega)⟩
theorem natAbs_cross {b : Nat} (hp : Bd b p) (hq : Bd b q) : (p.num * (q.den : Int)).natAbs < 2 ^ (b + b) ∧ ((p.den : Int) * (q.den : Int)).natAbs < 2 ^ (b + b) ∧ (p.num * q.num).natAbs < 2 ^ (b + b) := by
  refine ⟨?_, ?_, ?_⟩
  · rw [Int.natAbs_mul, Int.natAbs_natCast]; exact bits_mul hp.1 hq.2
  · rw [Int.natAbs_mul, Int.natAbs_natCast, Int.natAbs_natCast]; exact bits_mul hp.2 hq.2
  · rw [Int.natAbs_mul]; exact bits_mul hp.1 hq.1
theorem ldec2 : ∀ x : Nat, 2 ≤ 2 := fun _ => Nat.le_refl _
theorem s_plus {b : Nat} (hf : fs[i]? = some (f_plus j)) (hg : ∀ m, 2 ≤ m → Frac fs m j) (hn : 3 ≤ n) (hb : b ≤ 3000) (hp : Bd b p) (hq : Bd b q) : run fs n i [fr p, fr q] M = .ok (fr (p + q)) M := by
  obtain ⟨n, rfl⟩ : ∃ m, n = m + 1 := ⟨n - 1, by omega⟩
  refine run_pp (G := []) hf ⟨rfl, Nat.le_refl _⟩ rfl ?_ rfl
  obtain ⟨c1, c2, c3, c4⟩ := cross hb hp hq
  obtain ⟨k1, k2, k3⟩ := natAbs_cross hp hq
  obtain ⟨l1, _, _⟩ := natAbs_cross hq hp
  have d1 := Rat.den_pos p
  have d2 := Rat.den_pos q
  have e4 : 2 ^ (2 * b + 1) = 2 ^ (b + b) + 2 ^ (b + b) := by rw [show 2 * b + 1 = (b + b) + 1 by omega, Nat.pow_succ]; omega
  have hs : (p.num * (q.den : Int) + q.num * (p.den : Int)).natAbs < NUM := bits_num (b := 2 * b + 1) (by have := Int.natAbs_add_le (p.num * (q.den : Int)) (q.num * (p.den : Int)); omega) (by omega)
  have e := hg n (by omega) (p.num * (q.den : Int) + q.num * (p.den : Int)) ((p.den : Int) * (q.den : Int)) [] (Int.mul_pos (by omega) (by omega)) hs (bits_num k2 (by omega))
  show (evSs _ (.cons _ .nil) [some (.tup [.int p.num, .int (p.den : Int)]), some (.tup [.int q.num, .int (q.den : Int)])] []).res = _
  rw [Rat.add_def', ← Rat.divInt_ofNat, Int.natCast_mul]
  simp [b_mul c1 c4, b_mul c2 c3, b_mul c3 c4, e]
theorem s_minus {b : Nat} (hf : fs[i]? = some (f_minus j)) (hg : ∀ m, 2 ≤ m → Frac fs m j) (hn : 3 ≤ n) (hb : b ≤ 3000) (hp : Bd b p) (hq : Bd b q) : run fs n i [fr p, fr q] M = .ok (fr (p - q)) M := by
  obtain ⟨n, rfl⟩ : ∃ m, n = m + 1 := ⟨n - 1, by omega⟩
  refine run_pp (G := []) hf ⟨rfl, Nat.le_refl _⟩ rfl ?_ rfl
  obtain ⟨c1, c2, c3, c4⟩ := cross hb hp hq
  obtain ⟨k1, k2, k3⟩ := natAbs_cross hp hq
  obtain ⟨l1, _, _⟩ := natAbs_cross hq hp
  have d1 := Rat.den_pos p
  have d2 := Rat.den_pos q
  have e4 : 2 ^ (2 * b + 1) = 2 ^ (b + b) + 2 ^ (b + b) := by rw [show 2 * b + 1 = (b + b) + 1 by omega, Nat.pow_succ]; omega
  have hs : (p.num * (q.den : Int) - q.num * (p.den : Int)).natAbs < NUM := bits_num (b := 2 * b + 1) (by have := Int.natAbs_sub_le (p.num * (q.den : Int)) (q.num * (p.den : Int)); omega) (by omega)
  have e := hg n (by omega) (p.num * (q.den : Int) - q.num * (p.den : Int)) ((p.den : Int) * (q.den : Int)) [] (Int.mul_pos (by omega) (by omega)) hs (bits_num k2 (by omega))
  show (evSs _ (.cons _ .nil) [some (.tup [.int p.num, .int (p.den : Int)]), some (.tup [.int q.num, .int (q.den : Int)])] []).res = _
  rw [Rat.sub_def', ← Rat.divInt_ofNat, Int.natCast_mul]
  simp [b_mul c1 c4, b_mul c2 c3, b_mul c3 c4, e]
theorem s_times {b : Nat} (hf : fs[i]? = some (f_times j)) (hg : ∀ m, 2 ≤ m → Frac fs m j) (hn : 3 ≤ n) (hb : b ≤ 3000) (hp : Bd b p) (hq : Bd b q) : run fs n i [fr p, fr q] M = .ok (fr (p * q)) M := by
  obtain ⟨n, rfl⟩ : ∃ m, n = m + 1 := ⟨n - 1, by omega⟩
  refine run_pp (G := []) hf ⟨rfl, Nat.le_refl _⟩ rfl ?_ rfl
  obtain ⟨c1, c2, c3, c4⟩ := cross hb hp hq
  obtain ⟨k1, k2, k3⟩ := natAbs_cross hp hq
  have d1 := Rat.den_pos p
  have d2 := Rat.den_pos q
  have e := hg n (by omega) (p.num * q.num) ((p.den : Int) * (q.den : Int)) [] (Int.mul_pos (by omega) (by omega)) (bits_num k3 (by omega)) (bits_num k2 (by omega))
  show (evSs _ (.cons _ .nil) [some (.tup [.int p.num, .int (p.den : Int)]), some (.tup [.int q.num, .int (q.den : Int)])] []).res = _
  rw [Rat.mul_def', ← Rat.divInt_ofNat, Int.natCast_mul]
  simp [b_mul c1 c2, b_mul c3 c4, e]
theorem s_less {b : Nat} (hf : fs[i]? = some f_less) (hn : 1 ≤ n) (hb : b ≤ 3000) (hp : Bd b p) (hq : Bd b q) : run fs n i [fr p, fr q] M = .ok (.bl (decide (p < q))) M := by
  obtain ⟨n, rfl⟩ : ∃ m, n = m + 1 := ⟨n - 1, by omega⟩
  refine run_pp (G := []) hf ⟨rfl, Nat.le_refl _⟩ rfl ?_ rfl
  obtain ⟨c1, c2, c3, c4⟩ := cross hb hp hq
  show (evSs _ (.cons _ .nil) [some (.tup [.int p.num, .int (p.den : Int)]), some (.tup [.int q.num, .int (q.den : Int)])] []).res = _
  have e : decide (p < q) = decide (p.num * (q.den : Int) < q.num * (p.den : Int)) := decide_eq_decide.mpr (Rat.lt_iff p q)
  rw [e]
  simp [b_mul c1 c4, b_mul c2 c3]
theorem s_most {b : Nat} (hf : fs[i]? = some f_most) (hn : 1 ≤ n) (hb : b ≤ 3000) (hp : Bd b p) (hq : Bd b q) : run fs n i [fr p, fr q] M = .ok (.bl (decide (p ≤ q))) M := by
  obtain ⟨n, rfl⟩ : ∃ m, n = m + 1 := ⟨n - 1, by omega⟩
  refine run_pp (G := []) hf ⟨rfl, Nat.le_refl _⟩ rfl ?_ rfl
  obtain ⟨c1, c2, c3, c4⟩ := cross hb hp hq
  show (evSs _ (.cons _ .nil) [some (.tup [.int p.num, .int (p.den : Int)]), some (.tup [.int q.num, .int (q.den : Int)])] []).res = _
  have e : decide (p ≤ q) = decide (p.num * (q.den : Int) ≤ q.num * (p.den : Int)) := decide_eq_decide.mpr (Rat.le_iff p q)
  rw [e]
  simp [b_mul c1 c4, b_mul c2 c3]
end
end Mi
end
section
set_option Elab.async false
set_option linter.all false
set_option maxRecDepth 100000
set_option maxHeartbeats 1000000
set_option exponentiation.threshold 20000
/-! MiY: the dice that all laws share. -/
namespace Mi
open PySem
def setO (o : Option Mem) (ρ : Env) : Out := match o with
  | some M => .nx ρ M
  | none => .bad
@[simp] theorem setO_some {M : Mem} {ρ : Env} : setO (some M) ρ = .nx ρ M := (rfl)
@[simp] theorem evS_sset {F : Fns} {o i e : E} {ρ : Env} {M : Mem} : evS F (.sset o i e) ρ M = (evE F e ρ M).out ρ fun v M => (evE F o ρ M).out ρ fun x M => (evE F i ρ M).out ρ fun k M => setO (setD x k v M) ρ := (rfl)
/-- dice: what is left of the script's cell, the seed, the count -/
def Dice (m : Nat) (xs : List D) : Prop := ∃ l s c : Int, xs = [.int l, .int s, .int c] ∧ 0 ≤ l ∧ l < 10 ^ 120 ∧ 0 ≤ s ∧ s < 2 ^ 100 ∧ 0 ≤ c ∧ c ≤ m
theorem Dice.pure {m : Nat} {xs : List D} (h : Dice m xs) : pureL xs = true := by
  obtain ⟨l, s, c, rfl, _⟩ := h
  rfl
theorem Dice.mono {m k : Nat} {xs : List D} (h : Dice m xs) (l : m ≤ k) : Dice k xs := by
  obtain ⟨a, s, c, e, h1, h2, h3, h4, h5, h6⟩ := h
  exact ⟨a, s, c, e, h1, h2, h3, h4, h5, by omega⟩
abbrev f_roll : FD := ⟨2, 5, .cons (.ife (.cmp .Gt (.idx (.var 0) (.con (.int 0))) (.con (.int 0))) (.cons (.asg (.nm 2) (.bin .Mod (.blt .int (.cons (.idx (.var 0) (.con (.int 0))) .nil)) (.var 1))) (.cons (.sset (.var 0) (.con (.int 0)) (.bin .FloorDiv (.idx (.var 0) (.con (.int 0))) (.var 1))) (.cons (.ret (.var 2)) .nil))) .nil) (.cons (.sset (.var 0) (.con (.int 2)) (.bin .Add (.idx (.var 0) (.con (.int 2))) (.con (.int 1)))) (.cons (.asg (.nm 3) (.bin .Mod (.blt .int (.cons (.bin .Add (.idx (.var 0) (.con (.int 1))) (.bin .Mult (.con (.int 15486209)) (.idx (.var 0) (.con (.int 2))))) .nil)) (.con (.int 2305843009213693951)))) (.cons (.asg (.nm 4) (.bin .Add (.bin .Mult (.bin .Mod (.blt .int (.cons (.bin .Add (.bin .Mult (.var 3) (.var 3)) (.bin .Mult (.con (.int 199)) (.idx (.var 0) (.con (.int 2))))) .nil)) (.con (.int 2305843009213693907))) (.con (.int 7368751))) (.var 3))) (.cons (.ret (.bin .Mod (.blt .int (.cons (.bin .FloorDiv (.var 4) (.con (.int 65536))) .nil)) (.var 1))) .nil))))⟩
theorem ix3 {a b c : D} : idxD (.obj 0) (.int 0) [.lst [a, b, c]] = .ok a [.lst [a, b, c]] ∧ idxD (.obj 0) (.int 1) [.lst [a, b, c]] = .ok b [.lst [a, b, c]] ∧ idxD (.obj 0) (.int 2) [.lst [a, b, c]] = .ok c [.lst [a, b, c]] := ⟨rfl, rfl, rfl⟩
theorem st3 {a b c v : D} : setD (.obj 0) (.int 0) v [.lst [a, b, c]] = some [.lst [v, b, c]] ∧ setD (.obj 0) (.int 2) v [.lst [a, b, c]] = some [.lst [a, b, v]] := ⟨rfl, rfl⟩
section
variable {fs : List FD} {n i a : Nat} {M : Mem} {xs : List D} {t : Int} {m : Nat}
/-- what roll does -/
def Rolls (fs : List FD) (n i : Nat) : Prop := ∀ (m a : Nat) (xs : List D) (t : Int) (M : Mem), M[a]? = some (.lst xs) → Dice m xs → m < 2 ^ 1000 → 0 < t → t < 2 ^ 1000 → ∃ r xs', run fs n i [.obj a, .int t] M = .ok (.int r) (M.set a (.lst xs')) ∧ 0 ≤ r ∧ r < t ∧ Dice (m + 1) xs'
theorem s_roll (hf : fs[i]? = some f_roll) (hn : 1 ≤ n) : Rolls fs n i := by
  intro m a xs t M ha hd hm ht ht2
  obtain ⟨n, rfl⟩ : ∃ m, n = m + 1 := ⟨n - 1, by omega⟩
  have hp := hd.pure
  obtain ⟨l, s, c, rfl, h1, h2, h3, h4, h5, h6⟩ := hd
  have big : ∀ {x : Int}, 0 ≤ x → x ≤ 2 ^ 1000 → x.natAbs < NUM := fun {x} g1 g2 => bits_num (b := 1001) (by omega) (by omega)
  by_cases hl : 0 < l
  · have l1 : l < 2 ^ 1000 := Int.lt_trans h2 (by decide +kernel)
    refine ⟨l % t, [.int (l / t), .int s, .int c], ?_, Int.emod_nonneg _ (by omega), Int.emod_lt_of_pos _ ht, l / t, s, c, rfl, Int.ediv_nonneg h1 (by omega), ?_, h3, h4, h5, by omega⟩
    · refine run_op (G := [.lst [.int (l / t), .int s, .int c]]) hf ha hp rfl ⟨rfl, by show 2 ≤ 5; decide⟩ ?_ rfl rfl rfl
      show (evSs _ (.cons _ (.cons _ _)) [some (.obj 0), some (.int t), none, none, none] [.lst [.int l, .int s, .int c]]).res = _
      have e1 := b_mod (p := l) (M := [.lst [.int l, .int s, .int c]]) ht
      have e2 := b_div (p := l) (M := [.lst [.int l, .int s, .int c]]) ht (big h1 (Int.le_of_lt l1)) (big (by omega) (Int.le_of_lt ht2))
      simp [ix3, st3, hl, e1, e2]
    · exact Int.lt_of_le_of_lt (Int.ediv_le_self _ h1) h2
  · have c1 : c + 1 ≤ 2 ^ 1000 := by omega
    have one0 : 0 ≤ (s + 15486209 * (c + 1)) % 2305843009213693951 := Int.emod_nonneg _ (by decide)
    have one1 : (s + 15486209 * (c + 1)) % 2305843009213693951 < 2305843009213693951 := Int.emod_lt_of_pos _ (by decide)
    refine ⟨((((s + 15486209 * (c + 1)) % 2305843009213693951 * ((s + 15486209 * (c + 1)) % 2305843009213693951) + 199 * (c + 1)) % 2305843009213693907 * 7368751 + (s + 15486209 * (c + 1)) % 2305843009213693951) / 65536) % t, [.int l, .int s, .int (c + 1)], ?_, Int.emod_nonneg _ (by omega), Int.emod_lt_of_pos _ ht, l, s, c + 1, rfl, h1, h2, h3, h4, by omega, by omega⟩
    refine run_op (G := [.lst [.int l, .int s, .int (c + 1)]]) hf ha hp rfl ⟨rfl, by show 2 ≤ 5; decide⟩ ?_ rfl rfl rfl
    show (evSs _ (.cons _ (.cons _ _)) [some (.obj 0), some (.int t), none, none, none] [.lst [.int l, .int s, .int c]]).res = _
    generalize hone : (s + 15486209 * (c + 1)) % 2305843009213693951 = one at one0 one1 ⊢
    have two0 : 0 ≤ (one * one + 199 * (c + 1)) % 2305843009213693907 := Int.emod_nonneg _ (by decide)
    have two1 : (one * one + 199 * (c + 1)) % 2305843009213693907 < 2305843009213693907 := Int.emod_lt_of_pos _ (by decide)
    have e1 := b_mul (p := 15486209) (q := c + 1) (M := [.lst [.int l, .int s, .int (c + 1)]]) (num_big (by decide)) (big (by omega) c1)
    have e2 := b_mod (p := s + 15486209 * (c + 1)) (q := 2305843009213693951) (M := [.lst [.int l, .int s, .int (c + 1)]]) (by decide)
    have e3 := b_mul (p := one) (q := one) (M := [.lst [.int l, .int s, .int (c + 1)]]) (big one0 (by omega)) (big one0 (by omega))
    have e4 := b_mul (p := 199) (q := c + 1) (M := [.lst [.int l, .int s, .int (c + 1)]]) (num_big (by decide)) (big (by omega) c1)
    have e5 := b_mod (p := one * one + 199 * (c + 1)) (q := 2305843009213693907) (M := [.lst [.int l, .int s, .int (c + 1)]]) (by decide)
    generalize (one * one + 199 * (c + 1)) % 2305843009213693907 = two at two0 two1 e5 ⊢
    have e6 := b_mul (p := two) (q := 7368751) (M := [.lst [.int l, .int s, .int (c + 1)]]) (big two0 (by omega)) (num_big (by decide))
    have e7 := b_div (p := two * 7368751 + one) (q := 65536) (M := [.lst [.int l, .int s, .int (c + 1)]]) (by decide) (big (by omega) (by omega)) (num_big (by decide))
    have e8 := b_mod (p := (two * 7368751 + one) / 65536) (M := [.lst [.int l, .int s, .int (c + 1)]]) ht
    rw [hone] at e2
    simp [ix3, st3, hl, e1, e2, e3, e4, e5, e6, e7, e8]
theorem len_rol {xs : List D} {M : Mem} : blt .len [.rol xs] M = .ok (.int xs.length) M := rfl
theorem ix_rol {xs : List D} {d : D} {i : Nat} {M : Mem} (h : xs[i]? = some d) : idxD (.rol xs) (.int i) M = .ok d M := by
  show ofOpt (item xs (i : Int)) M = _
  rw [item_nat h]
  rfl
@[simp] theorem b_pow17 {M : Mem} : binop .Pow (.int 10) (.int 17) M = .ok (.int (10 ^ 17)) M := by
  show (if (0 : Int) ≤ 17 ∧ (17 : Int) ≤ 1000000 ∧ (10 : Int).natAbs < 2 ^ 64 then Res.ok (D.int (10 ^ (17 : Int).toNat)) M else .bad) = _
  rw [if_pos (by decide)]
  rfl
@[simp] theorem b_pow60 {M : Mem} : binop .Pow (.int 10) (.int 60) M = .ok (.int (10 ^ 60)) M := by
  show (if (0 : Int) ≤ 60 ∧ (60 : Int) ≤ 1000000 ∧ (10 : Int).natAbs < 2 ^ 64 then Res.ok (D.int (10 ^ (60 : Int).toNat)) M else .bad) = _
  rw [if_pos (by decide)]
  rfl
abbrev f_dice : FD := ⟨2, 4, .cons (.asg (.nm 2) (.ite (.cmp .Lt (.var 1) (.blt .len (.cons (.var 0) .nil))) (.blt .int (.cons (.idx (.var 0) (.var 1)) .nil)) (.bin .Add (.bin .Mult (.con (.int 97)) (.var 1)) (.con (.int 43))))) (.cons (.asg (.nm 3) (.bin .Mod (.blt .max (.cons (.con (.int 0)) (.cons (.bin .Sub (.blt .abs (.cons (.var 2) .nil)) (.bin .Pow (.con (.int 10)) (.con (.int 17)))) .nil))) (.bin .Mult (.bin .Pow (.con (.int 10)) (.con (.int 60))) (.bin .Pow (.con (.int 10)) (.con (.int 60)))))) (.cons (.ret (.lst (.cons (.var 3) (.cons (.bin .Add (.bin .Add (.bin .Add (.bin .Mult (.bin .Mod (.blt .abs (.cons (.var 2) .nil)) (.con (.int 1152921504606846737))) (.con (.int 37))) (.bin .Mult (.con (.int 859)) (.var 1))) (.bin .Mult (.con (.int 31)) (.blt .int (.cons (.cmp .Lt (.var 2) (.con (.int 0))) .nil)))) (.con (.int 17))) (.cons (.con (.int 0)) .nil))))) .nil))⟩
/-- what dice does -/
def Dices (fs : List FD) (n i : Nat) : Prop := ∀ (ns : List Int) (spot : Nat) (M : Mem), spot ≤ 1000 → ∃ xs, run fs n i [scr ns, .int spot] M = .ok (.obj M.length) (M ++ [.lst xs]) ∧ Dice 0 xs
theorem s_dice (hf : fs[i]? = some f_dice) (hn : 1 ≤ n) : Dices fs n i := by
  intro ns spot M hs
  obtain ⟨n, rfl⟩ : ∃ m, n = m + 1 := ⟨n - 1, by omega⟩
  have hp : pureL [scr ns, .int spot] = true := by
    have : ∀ ns : List Int, pureL (ns.map D.int) = true := fun ns => by
      induction ns with
      | nil => rfl
      | cons a r ih => simp [ih]
    simp [scr, this]
  -- the cell
  have cell : ∃ z : Int, evE (run fs n) (.ite (.cmp .Lt (.var 1) (.blt .len (.cons (.var 0) .nil))) (.blt .int (.cons (.idx (.var 0) (.var 1)) .nil)) (.bin .Add (.bin .Mult (.con (.int 97)) (.var 1)) (.con (.int 43)))) [some (scr ns), some (.int spot), none, none] [] = .ok (.int z) [] := by
    by_cases h : spot < ns.length
    · refine ⟨ns[spot], ?_⟩
      have e1 : decide ((spot : Int) < ((ns.map D.int).length : Nat)) = true := decide_eq_true (by rw [List.length_map]; omega)
      have e2 : idxD (.rol (ns.map D.int)) (.int spot) [] = .ok (.int ns[spot]) [] := ix_rol (by rw [List.getElem?_map, List.getElem?_eq_getElem h]; rfl)
      simp only [evE_ite, evE_cmp, evE_var, List.getElem?_cons_succ, List.getElem?_cons_zero, getV_some, bind_ok, evE_blt, evEs_cons, evEs_nil, scr, len_rol, c_lt, test_bl, e1, if_true, evE_idx, e2, bl_int]
    · refine ⟨97 * spot + 43, ?_⟩
      have e1 : decide ((spot : Int) < ((ns.map D.int).length : Nat)) = false := decide_eq_false (by rw [List.length_map]; omega)
      have e2 := b_mul (p := 97) (q := (spot : Int)) (M := []) (num_big (by decide)) (bits_num (b := 64) (by omega) (by omega))
      simp only [evE_ite, evE_cmp, evE_var, List.getElem?_cons_succ, List.getElem?_cons_zero, getV_some, bind_ok, evE_blt, evEs_cons, evEs_nil, scr, len_rol, c_lt, test_bl, e1, Bool.false_eq_true, if_false, evE_bin, evE_con, e2, b_add]
  obtain ⟨z, hz⟩ := cell
  generalize hl : (if (if z < 0 then -z else z) - 10 ^ 17 > 0 then (if z < 0 then -z else z) - 10 ^ 17 else 0) % ((10 ^ 60 : Int) * 10 ^ 60) = l
  generalize hsd : (if z < 0 then -z else z) % 1152921504606846737 * 37 + 859 * (spot : Int) + 31 * (if decide (z < 0) then 1 else 0) + 17 = sd
  have l0 : 0 ≤ l := by rw [← hl]; exact Int.emod_nonneg _ (by decide +kernel)
  have l1 : l < 10 ^ 120 := by
    rw [← hl]
    exact Int.lt_of_lt_of_le (Int.emod_lt_of_pos _ (by decide +kernel)) (by decide +kernel)
  have m0 : 0 ≤ (if z < 0 then -z else z) % 1152921504606846737 := Int.emod_nonneg _ (by decide)
  have m1 : (if z < 0 then -z else z) % 1152921504606846737 < 1152921504606846737 := Int.emod_lt_of_pos _ (by decide)
  have bb : 0 ≤ (if decide (z < 0) = true then (1 : Int) else 0) ∧ (if decide (z < 0) = true then (1 : Int) else 0) ≤ 1 := by split <;> decide
  refine ⟨[.int l, .int sd, .int 0], ?_, l, sd, 0, rfl, l0, l1, by omega, by omega, by omega, by omega⟩
  refine run_pl (j := 0) (ys := [.int l, .int sd, .int 0]) (G := [.lst [.int l, .int sd, .int 0]]) hf ⟨rfl, by show 2 ≤ 4; decide⟩ hp ?_ rfl rfl
  show (evSs _ (.cons (.asg _ _) (.cons _ (.cons _ .nil))) [some (scr ns), some (.int spot), none, none] []).res = _
  rw [evSs_cons, evS_asg, hz]
  have big : ∀ {x : Int}, 0 ≤ x → x < 2 ^ 100 → x.natAbs < NUM := fun {x} g1 g2 => bits_num (b := 100) (by omega) (by omega)
  have e1 := b_mul (p := 10 ^ 60) (q := 10 ^ 60) (M := []) (num_big (by decide +kernel)) (num_big (by decide +kernel))
  have e2 := b_mod (p := (if (if z < 0 then -z else z) - 10 ^ 17 > 0 then (if z < 0 then -z else z) - 10 ^ 17 else 0)) (q := (10 ^ 60 : Int) * 10 ^ 60) (M := []) (by decide +kernel)
  have e3 := b_mod (p := (if z < 0 then -z else z)) (q := 1152921504606846737) (M := []) (by decide)
  have e4 := b_mul (p := (if z < 0 then -z else z) % 1152921504606846737) (q := 37) (M := []) (big m0 (by omega)) (big (by omega) (by omega))
  have e5 := b_mul (p := 859) (q := (spot : Int)) (M := []) (big (by omega) (by omega)) (big (by omega) (by omega))
  have e6 := b_mul (p := 31) (q := (if decide (z < 0) = true then (1 : Int) else 0)) (M := []) (big (by omega) (by omega)) (big bb.1 (by omega))
  simp only [out_ok, bindT_nm, List.length_cons, List.length_nil, isPr_int, and_true, List.set_cons_succ, List.set_cons_zero]
  rw [if_pos (by decide)]
  simp only [bindO_some, next_nx, evSs_cons, evS_asg, evE_bin, evE_blt, evEs_cons, evEs_nil, evE_con, evE_var, List.getElem?_cons_succ, List.getElem?_cons_zero, getV_some, bind_ok, bl_abs, b_pow17, b_sub, bl_max, b_pow60, e1, e2, hl, out_ok, bindT_nm, List.length_cons, List.length_nil, isPr_int, and_true, List.set_cons_succ, List.set_cons_zero]
  rw [if_pos (by decide)]
  simp only [bindO_some, next_nx, evSs_cons, evS_ret, evE_lst, evE_bin, evE_blt, evEs_cons, evEs_nil, evE_con, evE_var, evE_cmp, List.getElem?_cons_succ, List.getElem?_cons_zero, getV_some, bind_ok, bl_abs, e3, e4, e5, c_lt, bl_intb, e6, b_add, hsd, List.length_cons, List.length_nil]
  rfl
end
end Mi
end
section
set_option Elab.async false
set_option linter.all false
set_option maxRecDepth 100000
set_option maxHeartbeats 1000000
set_option exponentiation.threshold 20000
/-! MiV: sources of loops, comprehensions, calls with lists anywhere. -/
namespace Mi
open PySem
section
variable {F : Fns} {ρ : Env} {M M1 : Mem} {xs ys : List D} {i a n : Nat} {e e1 e2 : E} {t : T} {own : List Nat} {it : It} {sr : Sr}
theorem at_tup (h : i ≤ xs.length) : Sr.at (.tup xs) i M = some xs[i]? := by
  show (if i ≤ xs.length then some xs[i]? else none) = _
  rw [if_pos h]
theorem at_lst (ha : M[a]? = some (.lst xs)) (h : i ≤ xs.length) : Sr.at (.lst a) i M = some xs[i]? := by
  show (match M[a]? with
    | some (.lst xs) => if i ≤ xs.length then some xs[i]? else none
    | _ => none) = _
  rw [ha]
  show (if i ≤ xs.length then some xs[i]? else none) = _
  rw [if_pos h]
def rngL (lo : Int) (n : Nat) : List D := (List.range n).map fun i : Nat => D.int (lo + (i : Int))
theorem rngL_len {lo : Int} {n : Nat} : (rngL lo n).length = n := by simp [rngL]
theorem rngL_get {lo : Int} {n i : Nat} {d : D} (h : (rngL lo n)[i]? = some d) : i < n ∧ d = .int (lo + i) := by
  unfold rngL at h
  rw [List.getElem?_map] at h
  by_cases hi : i < n
  · rw [List.getElem?_range hi] at h
    cases h
    exact ⟨hi, rfl⟩
  · rw [List.getElem?_eq_none (by simpa using hi)] at h
    cases h
theorem at_rng {lo : Int} : Sr.at (.rng lo n) i M = some (rngL lo n)[i]? := by
  show (if i < n then some (some (D.int (lo + i))) else some none) = _
  unfold rngL
  rw [List.getElem?_map]
  by_cases h : i < n
  · rw [if_pos h, List.getElem?_range h]
    rfl
  · rw [if_neg h, List.getElem?_eq_none (by simpa using h)]
    rfl
def enL (xs : List D) : List D := xs.zipIdx.map fun d => .pr [.int (d.2 : Nat), d.1]
theorem enL_len : (enL xs).length = xs.length := by simp [enL]
theorem enL_get {d : D} (h : (enL xs)[i]? = some d) : ∃ x, xs[i]? = some x ∧ d = .pr [.int i, x] := by
  unfold enL at h
  rw [List.getElem?_map, List.getElem?_zipIdx] at h
  cases e : xs[i]? with
  | none => rw [e] at h; cases h
  | some x =>
    rw [e] at h
    cases h
    exact ⟨x, rfl, by simp⟩
theorem at_en {s : Sr} (h : s.at i M = some xs[i]?) : Sr.at (.enum s) i M = some (enL xs)[i]? := by
  show (match s.at i M with
    | some (some d) => some (some (D.pr [.int i, d]))
    | some none => some none
    | none => none) = _
  rw [h]
  unfold enL
  rw [List.getElem?_map, List.getElem?_zipIdx]
  cases e : xs[i]? with
  | none => rfl
  | some x => simp
def ziL : List D → List D → List D
  | x :: xs, y :: ys => .pr [x, y] :: ziL xs ys
  | _, _ => []
theorem ziL_len : ∀ {xs ys : List D}, xs.length = ys.length → (ziL xs ys).length = xs.length
  | [], [], _ => rfl
  | [], _ :: _, h => by simp at h
  | _ :: _, [], h => by simp at h
  | x :: xs, y :: ys, h => by
    unfold ziL
    rw [List.length_cons, List.length_cons, ziL_len (by simpa using h)]
theorem ziL_at : ∀ {xs ys : List D} {i : Nat}, xs.length = ys.length → (ziL xs ys)[i]? = match xs[i]?, ys[i]? with
    | some x, some y => some (.pr [x, y])
    | _, _ => none
  | [], [], i, _ => by simp [ziL]
  | [], _ :: _, _, h => by simp at h
  | _ :: _, [], _, h => by simp at h
  | x :: xs, y :: ys, 0, h => by simp [ziL]
  | x :: xs, y :: ys, i + 1, h => by
    unfold ziL
    simpa using ziL_at (i := i) (by simpa using h)
theorem ziL_get {d : D} (hl : xs.length = ys.length) (h : (ziL xs ys)[i]? = some d) : ∃ x y, xs[i]? = some x ∧ ys[i]? = some y ∧ d = .pr [x, y] := by
  rw [ziL_at hl] at h
  cases e1 : xs[i]? with
  | none => rw [e1] at h; cases h
  | some x =>
    cases e2 : ys[i]? with
    | none => rw [e1, e2] at h; cases h
    | some y =>
      rw [e1, e2] at h
      cases h
      exact ⟨x, y, rfl, rfl, rfl⟩
theorem at_zi {s u : Sr} (hl : xs.length = ys.length) (h : s.at i M = some xs[i]?) (k : u.at i M = some ys[i]?) : Sr.at (.zip s u) i M = some (ziL xs ys)[i]? := by
  show (match s.at i M, u.at i M with
    | some (some x), some (some y) => some (some (D.pr [x, y]))
    | some none, some _ => some none
    | some (some _), some none => some none
    | _, _ => none) = _
  rw [h, k, ziL_at hl]
  cases xs[i]? <;> cases ys[i]? <;> rfl
@[simp] theorem evI_val : evI F (.val e) ρ M = (evE F e ρ M).bind fun d M => ofOpt (srOf d M) M := (rfl)
@[simp] theorem evI_enum : evI F (.enum e) ρ M = (evE F e ρ M).bind fun d M => ofOpt ((srOf d M).map .enum) M := (rfl)
def zipO (s t : Option Sr) (M : Mem) : Res Sr := match s, t with
  | some s, some t => .ok (.zip s t) M
  | _, _ => .bad
@[simp] theorem zipO_some {s t : Sr} : zipO (some s) (some t) M = .ok (.zip s t) M := (rfl)
@[simp] theorem evI_zip : evI F (.zip e1 e2) ρ M = (evE F e1 ρ M).bind fun x M => (evE F e2 ρ M).bind fun y M => zipO (srOf x M) (srOf y M) M := (rfl)
@[simp] theorem evI_rng1 : evI F (.rng1 e) ρ M = (evE F e ρ M).bind fun x M => ofOpt (rng1O x) M := (rfl)
@[simp] theorem evI_rng2 : evI F (.rng2 e1 e2) ρ M = (evE F e1 ρ M).bind fun x M => (evE F e2 ρ M).bind fun y M => ofOpt (rng2O x y) M := (rfl)
@[simp] theorem srOf_tup : srOf (.tup xs) M = some (.tup xs) := (rfl)
@[simp] theorem srOf_rol : srOf (.rol xs) M = some (.tup xs) := (rfl)
theorem srOf_obj (h : M[a]? = some (.lst xs)) : srOf (.obj a) M = some (.lst a) := by
  show (match M[a]? with
    | some (.lst _) => some (Sr.lst a)
    | _ => none) = _
  rw [h]
theorem rng1_nat {k : Nat} (h : k ≤ LIM) : rng1O (.int k) = some (.rng 0 k) := by
  have hl : LIM = 16777216 := rfl
  show (if (k : Int) < 4611686018427387904 ∧ -4611686018427387904 ≤ (k : Int) then some (Sr.rng 0 (k : Int).toNat) else none) = _
  rw [if_pos (by omega)]
  rfl
theorem rng2_nat {j k : Nat} (h : k ≤ LIM) (h2 : j ≤ LIM) : rng2O (.int j) (.int k) = some (.rng j (k - j)) := by
  have hl : LIM = 16777216 := rfl
  show (if (k : Int) < 4611686018427387904 ∧ -4611686018427387904 ≤ (k : Int) ∧ (j : Int) < 4611686018427387904 ∧ -4611686018427387904 ≤ (j : Int) then some (Sr.rng j ((k : Int) - j).toNat) else none) = _
  rw [if_pos (by omega)]
  congr 2
  omega
theorem LIM_WF : LIM < WF := Nat.lt_of_lt_of_le (show LIM < 2 ^ 25 by decide) (Nat.pow_le_pow_right (by decide) (by decide))
theorem zipIdx_map_ext {α β : Type} {l : List α} {f g : Nat → α → β} (h : ∀ i x, l[i]? = some x → f i x = g i x) : (l.zipIdx.map fun d => f d.2 d.1) = l.zipIdx.map fun d => g d.2 d.1 := by
  apply List.ext_getElem?
  intro i
  rw [List.getElem?_map, List.getElem?_map, List.getElem?_zipIdx]
  cases e : l[i]? with
  | none => rfl
  | some x => simp [h i x e]
/-- a comprehension without tests; each item may change the memory -/
theorem lc_mem {f : Nat → D → D} (P : Nat → Mem → Prop) (hi : evI F it ρ M = .ok sr M1) (hat : ∀ i M, P i M → i ≤ ys.length → sr.at i M = some ys[i]?) (hl : ys.length ≤ LIM) (h0 : P 0 M1)
    (h : ∀ i d M, ys[i]? = some d → P i M → ∃ ρ1 M2, bindT t d (wipeE ρ own) = some ρ1 ∧ evE F e ρ1 M = .ok (f i d) M2 ∧ P (i + 1) M2) : ∃ M2, evE F (.lc e t it own) ρ M = .ok (.obj M2.length) (M2 ++ [.lst (ys.zipIdx.map fun d => f d.2 d.1)]) ∧ P ys.length M2 := by
  obtain ⟨M2, e1, e2⟩ := lc_rule (t := t) (ρ := wipeE ρ own) (c := yes) (elt := evE F e) (sr := sr) (xs := ys) f (fun _ _ => true) P hat hl (fun i d M hd hp => by
    obtain ⟨ρ1, M2, a1, a2, a3⟩ := h i d M hd hp
    exact ⟨ρ1, M, a1, rfl, fun _ => ⟨M2, a2, a3⟩, fun z => absurd z (by decide)⟩) WF 0 [] M1 h0 (Nat.zero_le _) (by have := LIM_WF; omega) (Nat.le_refl _)
  refine ⟨M2, ?_, e2⟩
  show ((evI F it ρ M).bind fun sr M => (lcLoop t (wipeE ρ own) yes (evE F e) WF sr 0 [] M).noex).bind (fun acc M => alloc (.lst acc) M) = _
  rw [hi, bind_ok, e1, noex_ok, bind_ok]
  simp only [List.drop_zero, List.nil_append]
  rw [List.filter_eq_self.mpr (fun _ _ => rfl)]
  rfl
/-- .. that leaves the memory as it is -/
theorem lc_pure {f : Nat → D → D} (hi : evI F it ρ M = .ok sr M1) (hat : ∀ i, i ≤ ys.length → sr.at i M1 = some ys[i]?) (hl : ys.length ≤ LIM)
    (h : ∀ i d, ys[i]? = some d → ∃ ρ1, bindT t d (wipeE ρ own) = some ρ1 ∧ evE F e ρ1 M1 = .ok (f i d) M1) : evE F (.lc e t it own) ρ M = .ok (.obj M1.length) (M1 ++ [.lst (ys.zipIdx.map fun d => f d.2 d.1)]) := by
  obtain ⟨M2, e1, rfl⟩ := lc_mem (e := e) (t := t) (own := own) (f := f) (fun _ M => M = M1) hi (fun i M hM hle => by rw [hM]; exact hat i hle) hl rfl (fun i d M hd hM => by
    subst hM
    obtain ⟨ρ1, a1, a2⟩ := h i d hd
    exact ⟨ρ1, _, a1, a2, rfl⟩)
  exact e1
/-- with a test -/
theorem lci_pure {f : Nat → D → D} {c : E} {p : Nat → D → Bool} (hi : evI F it ρ M = .ok sr M1) (hat : ∀ i, i ≤ ys.length → sr.at i M1 = some ys[i]?) (hl : ys.length ≤ LIM)
    (h : ∀ i d, ys[i]? = some d → ∃ ρ1, bindT t d (wipeE ρ own) = some ρ1 ∧ test (evE F c ρ1 M1) = .ok (p i d) M1 ∧ (p i d = true → evE F e ρ1 M1 = .ok (f i d) M1)) : evE F (.lci e t it c own) ρ M = .ok (.obj M1.length) (M1 ++ [.lst ((ys.zipIdx.filter fun d => p d.2 d.1).map fun d => f d.2 d.1)]) := by
  obtain ⟨M2, e1, rfl⟩ := lc_rule (t := t) (ρ := wipeE ρ own) (c := fun ρ M => test (evE F c ρ M)) (elt := evE F e) (sr := sr) (xs := ys) f p (fun _ M => M = M1) (fun i M hM hle => by rw [hM]; exact hat i hle) hl (fun i d M hd hM => by
    subst hM
    obtain ⟨ρ1, a1, a2, a3⟩ := h i d hd
    exact ⟨ρ1, M, a1, a2, fun hb => ⟨M, a3 hb, rfl⟩, fun _ => rfl⟩) WF 0 [] M1 rfl (Nat.zero_le _) (by have := LIM_WF; omega) (Nat.le_refl _)
  show ((evI F it ρ M).bind fun sr M => (lcLoop t (wipeE ρ own) (fun ρ M => test (evE F c ρ M)) (evE F e) WF sr 0 [] M).noex).bind (fun acc M => alloc (.lst acc) M) = _
  rw [hi, bind_ok, e1, noex_ok, bind_ok]
  rfl
/-- a for loop -/
theorem fr_rule {b : Ss} (P : Nat → Env → Mem → Prop) (hi : evI F it ρ M = .ok sr M1) (hat : ∀ i ρ M, P i ρ M → i ≤ ys.length → sr.at i M = some ys[i]?) (hl : ys.length ≤ LIM) (h0 : P 0 ρ M1)
    (h : ∀ i d ρ M, ys[i]? = some d → P i ρ M → ∃ ρ1 ρ' M', bindT t d ρ = some ρ1 ∧ (evSs F b ρ1 M = .nx ρ' M' ∨ evSs F b ρ1 M = .cnt ρ' M') ∧ P (i + 1) ρ' M') : ∃ ρ' M', evS F (.fr t it b) ρ M = .nx ρ' M' ∧ P ys.length ρ' M' := by
  obtain ⟨ρ', M', e1, e2⟩ := for_rule (t := t) (b := evSs F b) (sr := sr) (xs := ys) P hat h WF 0 ρ M1 h0 (Nat.zero_le _) (by have := LIM_WF; omega)
  refine ⟨ρ', M', ?_, e2⟩
  show (evI F it ρ M).out ρ (fun sr M => forLoop t (evSs F b) WF sr 0 ρ M) = _
  rw [hi]
  exact e1
end
section
variable {fs : List FD} {k i a : Nat} {fd : FD} {M G : Mem} {xs xs' ys : List D} {p d : D}
theorem roots_po (ha : M[a]? = some (.lst xs)) (hx : pureL xs = true) (hp : pureD p = true) : roots [p, .obj a] M = some [a] := by
  have e : roots [.obj a] M = some [a] := roots_o ha hx rfl
  unfold roots
  cases p with
  | obj b => exact absurd hp Bool.false_ne_true
  | _ => simp only [hp, if_true]; exact e
theorem renA_po (hp : pureD p = true) : renA 0 [p, .obj a] = [p, .obj 0] := by
  unfold renA
  cases p with
  | obj b => exact absurd hp Bool.false_ne_true
  | _ => rfl
/-- a datum and a list handed over, a new list handed back -/
theorem run_pol {j : Nat} (hf : fs[i]? = some fd) (ha : M[a]? = some (.lst xs)) (hx : pureL xs = true) (hp : pureD p = true) (hl : 2 = fd.np ∧ fd.np ≤ fd.nv)
    (h : (evSs (run fs k) fd.body (startE fd.nv [p, .obj 0]) [.lst xs]).res = .ok (.obj j) G) (hj1 : 1 ≤ j) (hj : G[j]? = some (.lst ys)) (hy : pureL ys = true) (hg : G[0]? = some (.lst xs')) (hx' : pureL xs' = true) :
    run fs (k + 1) i [p, .obj a] M = .ok (.obj M.length) (M.set a (.lst xs') ++ [.lst ys]) := by
  rw [run_at hf]
  refine iso_eq (roots_po ha hx hp) (by simp) ?_
  rw [renA_po hp, subM_o ha, body_at (ds := [p, .obj 0]) hl h, back_l hj1 hj hy (put_one hg hx'), List.length_set]
theorem set_self {M : Mem} (h : M[a]? = some (.lst xs)) : M.set a (.lst xs) = M := by
  apply List.ext_getElem?
  intro j
  by_cases e : a = j
  · subst e
    rw [List.getElem?_set_self (List.getElem?_eq_some_iff.mp h).1, h]
  · rw [List.getElem?_set_ne e]
end
end Mi
end
section
set_option Elab.async false
set_option linter.all false
set_option maxRecDepth 100000
set_option maxHeartbeats 1000000
set_option exponentiation.threshold 20000
/-! MiW: equality of data. -/
namespace Mi
open PySem PySem.W
section
variable {M : Mem} {n : Nat} {p q : Rat}
theorem mapM_map {α β γ : Type} {f : α → β} {g : β → Option γ} {h : α → γ} (k : ∀ x, g (f x) = some (h x)) : ∀ l : List α, (l.map f).mapM g = some (l.map h)
  | [] => by rw [List.map_nil, List.mapM_nil]; rfl
  | x :: l => by
    rw [List.map_cons, List.mapM_cons, k x, mapM_map k l]
    rfl
theorem mapM_map' {α β γ : Type} {f : α → β} {g : β → Option γ} {h : α → γ} : ∀ l : List α, (∀ x ∈ l, g (f x) = some (h x)) → (l.map f).mapM g = some (l.map h)
  | [], _ => by rw [List.map_nil, List.mapM_nil]; rfl
  | x :: l, k => by
    rw [List.map_cons, List.mapM_cons, k x List.mem_cons_self, mapM_map' l fun y hy => k y (List.mem_cons_of_mem _ hy)]
    rfl
theorem py_int {i : Int} : py M (n + 1) (.int i) = some (Datum.toD i) := rfl
theorem py_bl {b : Bool} : py M (n + 1) (.bl b) = some (Datum.toD b) := rfl
theorem py_tup {α : Type} [DecidableEq α] [Datum α] {f : α → D} {l : List α} (h : ∀ x ∈ l, py M n (f x) = some (Datum.toD x)) : py M (n + 1) (.tup (l.map f)) = some (Datum.toD (Tup.mk l)) := by
  show ((l.map f).mapM (py M n)).map PyData.tuple = _
  rw [mapM_map' l h]
  rfl
theorem py_obj {α : Type} [DecidableEq α] [Datum α] {f : α → D} {l : List α} {a : Nat} (ha : M[a]? = some (.lst (l.map f))) (h : ∀ x ∈ l, py M n (f x) = some (Datum.toD x)) : py M (n + 1) (.obj a) = some (Datum.toD l) := by
  show (match M[a]? with
    | some (.lst xs) => (xs.mapM (py M n)).map PyData.list
    | _ => none) = _
  rw [ha]
  show ((l.map f).mapM (py M n)).map PyData.list = _
  rw [mapM_map' l h]
  rfl
theorem py_pair {α β : Type} [DecidableEq α] [Datum α] [DecidableEq β] [Datum β] {x y : D} {a : α} {b : β} (hx : py M n x = some (Datum.toD a)) (hy : py M n y = some (Datum.toD b)) : py M (n + 1) (.tup [x, y]) = some (Datum.toD (a, b)) := by
  show ([x, y].mapM (py M n)).map PyData.tuple = _
  rw [List.mapM_cons, hx, List.mapM_cons, hy, List.mapM_nil]
  rfl
/-- a fraction's two numbers -/
def frP (q : Rat) : Int × Int := (q.num, (q.den : Int))
theorem frP_inj : frP p = frP q ↔ p = q := by
  constructor
  · intro h
    unfold frP at h
    simp only [Prod.mk.injEq] at h
    exact Rat.ext h.1 (by exact_mod_cast h.2)
  · rintro rfl
    rfl
theorem py_fr : py M (n + 2) (fr q) = some (Datum.toD (frP q)) := py_pair py_int py_int
theorem eq_data {α : Type} [DecidableEq α] [Datum α] {x y : D} {a b : α} (he : eqO x y M = (py M DEEP x).bind fun p => (py M DEEP y).map fun q => PyData.eqv p q) (hx : py M DEEP x = some (Datum.toD a)) (hy : py M DEEP y = some (Datum.toD b)) :
    cmpop .Eq x y M = .ok (.bl (decide (a = b))) M ∧ cmpop .NotEq x y M = .ok (.bl (!decide (a = b))) M := by
  have e : eqO x y M = some (decide (a = b)) := by
    rw [he, hx, hy]
    show some (PyData.eqv (Datum.toD a) (Datum.toD b)) = _
    rw [Datum.eqv]
  refine ⟨?_, ?_⟩
  · show ofOpt ((eqO x y M).map D.bl) M = _
    rw [e]
    rfl
  · show ofOpt (((eqO x y M).map fun b => !b).map D.bl) M = _
    rw [e]
    rfl
theorem eq_fr : cmpop .Eq (fr p) (fr q) M = .ok (.bl (decide (p = q))) M ∧ cmpop .NotEq (fr p) (fr q) M = .ok (.bl (!decide (p = q))) M := by
  have e := eq_data (M := M) (x := fr p) (y := fr q) rfl (py_fr (n := 7)) (py_fr (n := 7))
  rw [decide_eq_decide.mpr frP_inj] at e
  exact e
theorem map_frP_inj : ∀ {ps qs : List Rat}, ps.map frP = qs.map frP ↔ ps = qs
  | [], [] => by simp
  | [], _ :: _ => by simp
  | _ :: _, [] => by simp
  | p :: ps, q :: qs => by rw [List.map_cons, List.map_cons, List.cons.injEq, List.cons.injEq, frP_inj, map_frP_inj]
theorem py_frs {ps : List Rat} : py M (n + 3) (.tup (ps.map fr)) = some (Datum.toD (Tup.mk (ps.map frP))) := by
  show ((ps.map fr).mapM (py M (n + 2))).map PyData.tuple = _
  rw [mapM_map (h := fun q => Datum.toD (frP q)) (fun x => py_fr)]
  show some (PyData.tuple _) = some (PyData.tuple _)
  rw [List.map_map]
  rfl
theorem eq_frs {ps qs : List Rat} : cmpop .Eq (.tup (ps.map fr)) (.tup (qs.map fr)) M = .ok (.bl (decide (ps = qs))) M ∧ cmpop .NotEq (.tup (ps.map fr)) (.tup (qs.map fr)) M = .ok (.bl (!decide (ps = qs))) M := by
  have e := eq_data (M := M) (x := .tup (ps.map fr)) (y := .tup (qs.map fr)) rfl (py_frs (n := 6)) (py_frs (n := 6))
  have h : (Tup.mk (ps.map frP) = Tup.mk (qs.map frP)) ↔ ps = qs := by rw [Tup.mk.injEq]; exact map_frP_inj
  rw [decide_eq_decide.mpr h] at e
  exact e
end
end Mi
end
section
set_option Elab.async false
set_option linter.all false
set_option maxRecDepth 100000
set_option maxHeartbeats 1000000
set_option exponentiation.threshold 20000
/-! MiZ: comprehensions whose items are rolled. -/
namespace Mi
open PySem
theorem lcLoop_acc {t : T} {ρ : Env} {elt : Env → Mem → Res D} {sr : Sr} {ys : List D} (P : Nat → List D → Mem → Prop) (hat : ∀ i acc M, P i acc M → i ≤ ys.length → sr.at i M = some ys[i]?) (hl : ys.length ≤ LIM)
    (h : ∀ i d acc M, ys[i]? = some d → P i acc M → ∃ ρ1 v M2, bindT t d ρ = some ρ1 ∧ elt ρ1 M = .ok v M2 ∧ P (i + 1) (acc ++ [v]) M2) :
    ∀ (n i : Nat) (acc : List D) (M : Mem), P i acc M → i ≤ ys.length → ys.length < n + i → acc.length = i → ∃ acc' M', lcLoop t ρ yes elt n sr i acc M = .ok acc' M' ∧ P ys.length acc' M'
  | 0, i, acc, M, hp, h1, h2, _ => by omega
  | n + 1, i, acc, M, hp, h1, h2, h3 => by
    unfold lcLoop
    rw [hat i acc M hp h1]
    by_cases hi : i < ys.length
    · rw [List.getElem?_eq_getElem hi]
      obtain ⟨ρ1, v, M2, e1, e2, e3⟩ := h i _ acc M (List.getElem?_eq_getElem hi) hp
      simp only [e1, yes, bind_ok, if_true, e2]
      rw [if_pos (by omega)]
      exact lcLoop_acc P hat hl h n (i + 1) (acc ++ [v]) M2 e3 (by omega) (by omega) (by simp; omega)
    · have e : i = ys.length := by omega
      rw [List.getElem?_eq_none (by omega)]
      subst e
      exact ⟨acc, M, rfl, hp⟩
theorem lc_acc {F : Fns} {ρ : Env} {M M1 : Mem} {ys : List D} {e : E} {t : T} {own : List Nat} {it : It} {sr : Sr} (P : Nat → List D → Mem → Prop) (hi : evI F it ρ M = .ok sr M1) (hat : ∀ i acc M, P i acc M → i ≤ ys.length → sr.at i M = some ys[i]?) (hl : ys.length ≤ LIM) (h0 : P 0 [] M1)
    (h : ∀ i d acc M, ys[i]? = some d → P i acc M → ∃ ρ1 v M2, bindT t d (wipeE ρ own) = some ρ1 ∧ evE F e ρ1 M = .ok v M2 ∧ P (i + 1) (acc ++ [v]) M2) : ∃ acc M2, evE F (.lc e t it own) ρ M = .ok (.obj M2.length) (M2 ++ [.lst acc]) ∧ P ys.length acc M2 := by
  obtain ⟨acc, M2, e1, e2⟩ := lcLoop_acc (t := t) (ρ := wipeE ρ own) (elt := evE F e) (sr := sr) P hat hl h WF 0 [] M1 h0 (Nat.zero_le _) (by have := LIM_WF; omega) rfl
  refine ⟨acc, M2, ?_, e2⟩
  show ((evI F it ρ M).bind fun sr M => (lcLoop t (wipeE ρ own) yes (evE F e) WF sr 0 [] M).noex).bind (fun acc M => alloc (.lst acc) M) = _
  rw [hi, bind_ok, e1, noex_ok, bind_ok]
  rfl
end Mi
end
section
set_option Elab.async false
set_option linter.all false
set_option maxRecDepth 100000
set_option maxHeartbeats 0
/-! the defs of law_k58_whole_offs_of_rows, as data; printed by a program -/
namespace K58
open PySem PySem.Spec PyProof.Rows L2 Mi
abbrev top (i : Nat) : Stmt := PySem.Challenge.pw_seatsdue_k58_whole_offs_of_rows.main.body.getD i (.Pass ⟨0, 0, 0, 0⟩)
abbrev i_is_whole : Nat := 0
abbrev i_is_near : Nat := 1
abbrev i_is_within : Nat := 2
abbrev i_is_pair : Nat := 3
abbrev i_require_number : Nat := 4
abbrev i_common_divisor : Nat := 5
abbrev i_fraction : Nat := 6
abbrev i_plus : Nat := 7
abbrev i_minus : Nat := 8
abbrev i_times : Nat := 9
abbrev i_is_less : Nat := 10
abbrev i_is_at_most : Nat := 11
abbrev i_is_fraction : Nat := 12
abbrev i_is_near_fraction : Nat := 13
abbrev i_added : Nat := 14
abbrev i_is_shares_in : Nat := 15
abbrev i_require_shares : Nat := 16
abbrev i_is_row_in : Nat := 17
abbrev i_counts_in : Nat := 18
abbrev i_offs_in : Nat := 19
abbrev i_row_off_in : Nat := 20
abbrev i_bound_in : Nat := 21
abbrev i_require_spread_row : Nat := 22
abbrev i_counts_of : Nat := 23
abbrev i_off_at : Nat := 24
abbrev i_off_of : Nat := 25
abbrev i_keeps_within : Nat := 26
abbrev i_is_spread : Nat := 27
abbrev i__law_dice : Nat := 28
abbrev i__law_roll : Nat := 29
abbrev i__law_divisor : Nat := 30
abbrev i__law_fraction : Nat := 31
abbrev i__law_fr_plus : Nat := 32
abbrev i__law_fr_times : Nat := 33
abbrev i__law_fr_less : Nat := 34
abbrev i__law_shares : Nat := 35
abbrev i__law_re_minus : Nat := 36
abbrev i__law_sp_offs : Nat := 37
abbrev i__law_sp_off : Nat := 38
abbrev i__law_sp_bound : Nat := 39
abbrev i__law_row : Nat := 40
abbrev i__law_right : Nat := 41
abbrev i_law : Nat := 42
abbrev c_FAR : D := .int 1000000000000000000000000000000000000000000000000000000000000
abbrev c_PAIR_SIZE : D := .int 2
abbrev c_MOST_BOUND : D := .int 1000
abbrev c_MOST_SHARES : D := .int 8
abbrev c_LEAST_SHARES : D := .int 2
abbrev c_ONE : D := .tup [.int 1, .int 1]
abbrev c_MOST_ROW : D := .int 60
abbrev c_ZERO : D := .tup [.int 0, .int 1]
def cs : List (Str × D) := [("FAR", c_FAR), ("PAIR_SIZE", c_PAIR_SIZE), ("MOST_BOUND", c_MOST_BOUND), ("MOST_SHARES", c_MOST_SHARES), ("LEAST_SHARES", c_LEAST_SHARES), ("ONE", c_ONE), ("MOST_ROW", c_MOST_ROW), ("ZERO", c_ZERO)]
def df_is_whole : Df := ⟨"is_whole", ["value"], ["value"], defArgs (top 9), defBody (top 9), defScope (top 9)⟩
def b_is_whole : Ss := .cons (.ret (.and (.blt .isInt (.cons (.var 0) .nil)) (.not (.tst (.blt .isBool (.cons (.var 0) .nil)))))) .nil
def fd_is_whole : FD := ⟨1, 1, b_is_whole⟩
def df_is_near : Df := ⟨"is_near", ["value"], ["value"], defArgs (top 10), defBody (top 10), defScope (top 10)⟩
def b_is_near : Ss := .cons (.ret (.and (.call i_is_whole (.cons (.var 0) .nil)) (.chn .Lt .Lt (.neg (.con c_FAR)) (.var 0) (.con c_FAR)))) .nil
def fd_is_near : FD := ⟨1, 1, b_is_near⟩
def df_is_within : Df := ⟨"is_within", ["value", "least", "most"], ["value", "least", "most"], defArgs (top 11), defBody (top 11), defScope (top 11)⟩
def b_is_within : Ss := .cons (.ret (.and (.call i_is_whole (.cons (.var 0) .nil)) (.chn .LtE .LtE (.var 1) (.var 0) (.var 2)))) .nil
def fd_is_within : FD := ⟨3, 3, b_is_within⟩
def df_is_pair : Df := ⟨"is_pair", ["value"], ["value"], defArgs (top 12), defBody (top 12), defScope (top 12)⟩
def b_is_pair : Ss := .cons (.ret (.and (.blt .isTuple (.cons (.var 0) .nil)) (.cmp .Eq (.blt .len (.cons (.var 0) .nil)) (.con c_PAIR_SIZE)))) .nil
def fd_is_pair : FD := ⟨1, 1, b_is_pair⟩
def df_require_number : Df := ⟨"require_number", ["value", "least", "most"], ["value", "least", "most"], defArgs (top 13), defBody (top 13), defScope (top 13)⟩
def b_require_number : Ss := .cons (.ife (.or (.not (.tst (.call i_is_near (.cons (.var 0) .nil)))) (.or (.and (.cmp .IsNot (.var 1) (.con (.non))) (.cmp .Lt (.var 0) (.var 1))) (.and (.cmp .IsNot (.var 2) (.con (.non))) (.cmp .Gt (.var 0) (.var 2))))) (.cons .rai .nil) .nil) .nil
def fd_require_number : FD := ⟨3, 3, b_require_number⟩
def df_common_divisor : Df := ⟨"common_divisor", ["one", "other"], ["one", "other", "left", "right"], defArgs (top 14), defBody (top 14), defScope (top 14)⟩
def b_common_divisor : Ss := .cons (.par 2 3 (.blt .abs (.cons (.var 0) .nil)) (.blt .abs (.cons (.var 1) .nil))) (.cons (.whl (.tst (.var 3)) (.cons (.par 2 3 (.var 3) (.bin .Mod (.var 2) (.var 3))) .nil)) (.cons (.ret (.var 2)) .nil))
def fd_common_divisor : FD := ⟨2, 4, b_common_divisor⟩
def df_fraction : Df := ⟨"fraction", ["top", "bottom"], ["top", "bottom", "shared"], defArgs (top 15), defBody (top 15), defScope (top 15)⟩
def b_fraction : Ss := .cons (.asg (.nm 2) (.bin .Mult (.call i_common_divisor (.cons (.var 0) (.cons (.var 1) .nil))) (.ite (.cmp .Gt (.var 1) (.con (.int 0))) (.con (.int 1)) (.neg (.con (.int 1)))))) (.cons (.ret (.tup (.cons (.bin .FloorDiv (.var 0) (.var 2)) (.cons (.bin .FloorDiv (.var 1) (.var 2)) .nil)))) .nil)
def fd_fraction : FD := ⟨2, 3, b_fraction⟩
def df_plus : Df := ⟨"plus", ["one", "other"], ["one", "other"], defArgs (top 16), defBody (top 16), defScope (top 16)⟩
def b_plus : Ss := .cons (.ret (.call i_fraction (.cons (.bin .Add (.bin .Mult (.idx (.var 0) (.con (.int 0))) (.idx (.var 1) (.con (.int 1)))) (.bin .Mult (.idx (.var 1) (.con (.int 0))) (.idx (.var 0) (.con (.int 1))))) (.cons (.bin .Mult (.idx (.var 0) (.con (.int 1))) (.idx (.var 1) (.con (.int 1)))) .nil)))) .nil
def fd_plus : FD := ⟨2, 2, b_plus⟩
def df_minus : Df := ⟨"minus", ["one", "other"], ["one", "other"], defArgs (top 17), defBody (top 17), defScope (top 17)⟩
def b_minus : Ss := .cons (.ret (.call i_fraction (.cons (.bin .Sub (.bin .Mult (.idx (.var 0) (.con (.int 0))) (.idx (.var 1) (.con (.int 1)))) (.bin .Mult (.idx (.var 1) (.con (.int 0))) (.idx (.var 0) (.con (.int 1))))) (.cons (.bin .Mult (.idx (.var 0) (.con (.int 1))) (.idx (.var 1) (.con (.int 1)))) .nil)))) .nil
def fd_minus : FD := ⟨2, 2, b_minus⟩
def df_times : Df := ⟨"times", ["one", "other"], ["one", "other"], defArgs (top 18), defBody (top 18), defScope (top 18)⟩
def b_times : Ss := .cons (.ret (.call i_fraction (.cons (.bin .Mult (.idx (.var 0) (.con (.int 0))) (.idx (.var 1) (.con (.int 0)))) (.cons (.bin .Mult (.idx (.var 0) (.con (.int 1))) (.idx (.var 1) (.con (.int 1)))) .nil)))) .nil
def fd_times : FD := ⟨2, 2, b_times⟩
def df_is_less : Df := ⟨"is_less", ["one", "other"], ["one", "other"], defArgs (top 19), defBody (top 19), defScope (top 19)⟩
def b_is_less : Ss := .cons (.ret (.cmp .Lt (.bin .Mult (.idx (.var 0) (.con (.int 0))) (.idx (.var 1) (.con (.int 1)))) (.bin .Mult (.idx (.var 1) (.con (.int 0))) (.idx (.var 0) (.con (.int 1)))))) .nil
def fd_is_less : FD := ⟨2, 2, b_is_less⟩
def df_is_at_most : Df := ⟨"is_at_most", ["one", "other"], ["one", "other"], defArgs (top 20), defBody (top 20), defScope (top 20)⟩
def b_is_at_most : Ss := .cons (.ret (.cmp .LtE (.bin .Mult (.idx (.var 0) (.con (.int 0))) (.idx (.var 1) (.con (.int 1)))) (.bin .Mult (.idx (.var 1) (.con (.int 0))) (.idx (.var 0) (.con (.int 1)))))) .nil
def fd_is_at_most : FD := ⟨2, 2, b_is_at_most⟩
def df_is_fraction : Df := ⟨"is_fraction", ["value"], ["value"], defArgs (top 21), defBody (top 21), defScope (top 21)⟩
def b_is_fraction : Ss := .cons (.ife (.or (.not (.tst (.call i_is_pair (.cons (.var 0) .nil)))) (.or (.not (.tst (.call i_is_whole (.cons (.idx (.var 0) (.con (.int 0))) .nil)))) (.or (.not (.tst (.call i_is_whole (.cons (.idx (.var 0) (.con (.int 1))) .nil)))) (.cmp .Lt (.idx (.var 0) (.con (.int 1))) (.con (.int 1)))))) (.cons (.ret (.con (.bl false))) .nil) .nil) (.cons (.ret (.cmp .Eq (.call i_common_divisor (.cons (.idx (.var 0) (.con (.int 0))) (.cons (.idx (.var 0) (.con (.int 1))) .nil))) (.con (.int 1)))) .nil)
def fd_is_fraction : FD := ⟨1, 1, b_is_fraction⟩
def df_is_near_fraction : Df := ⟨"is_near_fraction", ["value"], ["value"], defArgs (top 22), defBody (top 22), defScope (top 22)⟩
def b_is_near_fraction : Ss := .cons (.ret (.and (.call i_is_fraction (.cons (.var 0) .nil)) (.and (.call i_is_near (.cons (.idx (.var 0) (.con (.int 0))) .nil)) (.call i_is_near (.cons (.idx (.var 0) (.con (.int 1))) .nil))))) .nil
def fd_is_near_fraction : FD := ⟨1, 1, b_is_near_fraction⟩
def df_added : Df := ⟨"added", ["fractions"], ["fractions", "found", "one"], defArgs (top 23), defBody (top 23), defScope (top 23)⟩
def b_added : Ss := .cons (.asg (.nm 1) (.tup (.cons (.con (.int 0)) (.cons (.con (.int 1)) .nil)))) (.cons (.fr (.nm 2) (.val (.var 0)) (.cons (.asg (.nm 1) (.call i_plus (.cons (.var 1) (.cons (.var 2) .nil)))) .nil)) (.cons (.ret (.var 1)) .nil))
def fd_added : FD := ⟨1, 3, b_added⟩
def df_is_shares_in : Df := ⟨"is_shares_in", ["value"], ["value", "one"], defArgs (top 29), defBody (top 29), defScope (top 29)⟩
def b_is_shares_in : Ss := .cons (.ife (.or (.not (.tst (.blt .isTuple (.cons (.var 0) .nil)))) (.not (.chn .LtE .LtE (.con c_LEAST_SHARES) (.blt .len (.cons (.var 0) .nil)) (.con c_MOST_SHARES)))) (.cons (.ret (.con (.bl false))) .nil) .nil) (.cons (.ife (.not (.tst (.blt .all (.cons (.lc (.and (.call i_is_fraction (.cons (.var 1) .nil)) (.and (.cmp .Gt (.idx (.var 1) (.con (.int 0))) (.con (.int 0))) (.cmp .LtE (.idx (.var 1) (.con (.int 1))) (.con c_MOST_BOUND)))) (.nm 1) (.val (.var 0)) [1]) .nil)))) (.cons (.ret (.con (.bl false))) .nil) .nil) (.cons (.ret (.cmp .Eq (.call i_added (.cons (.var 0) .nil)) (.con c_ONE))) .nil))
def fd_is_shares_in : FD := ⟨1, 2, b_is_shares_in⟩
def df_require_shares : Df := ⟨"require_shares", ["value"], ["value"], defArgs (top 30), defBody (top 30), defScope (top 30)⟩
def b_require_shares : Ss := .cons (.ife (.not (.tst (.call i_is_shares_in (.cons (.var 0) .nil)))) (.cons .rai .nil) .nil) .nil
def fd_require_shares : FD := ⟨1, 1, b_require_shares⟩
def df_is_row_in : Df := ⟨"is_row_in", ["shares", "value"], ["shares", "value", "party"], defArgs (top 34), defBody (top 34), defScope (top 34)⟩
def b_is_row_in : Ss := .cons (.ife (.or (.not (.tst (.blt .isTuple (.cons (.var 1) .nil)))) (.cmp .Gt (.blt .len (.cons (.var 1) .nil)) (.con c_MOST_ROW))) (.cons (.ret (.con (.bl false))) .nil) .nil) (.cons (.ret (.blt .all (.cons (.lc (.call i_is_within (.cons (.var 2) (.cons (.con (.int 0)) (.cons (.bin .Sub (.blt .len (.cons (.var 0) .nil)) (.con (.int 1))) .nil)))) (.nm 2) (.val (.var 1)) [2]) .nil))) .nil)
def fd_is_row_in : FD := ⟨2, 3, b_is_row_in⟩
def df_counts_in : Df := ⟨"counts_in", ["shares", "row"], ["shares", "row", "found", "party"], defArgs (top 35), defBody (top 35), defScope (top 35)⟩
def b_counts_in : Ss := .cons (.asg (.nm 2) (.bin .Mult (.lst (.cons (.con (.int 0)) .nil)) (.blt .len (.cons (.var 0) .nil)))) (.cons (.fr (.nm 3) (.val (.var 1)) (.cons (.augS (.var 2) (.var 3) .Add (.con (.int 1))) .nil)) (.cons (.ret (.var 2)) .nil))
def fd_counts_in : FD := ⟨2, 4, b_counts_in⟩
def df_offs_in : Df := ⟨"offs_in", ["shares", "counts"], ["shares", "counts", "places", "many", "share"], defArgs (top 36), defBody (top 36), defScope (top 36)⟩
def b_offs_in : Ss := .cons (.asg (.nm 2) (.blt .sum (.cons (.var 1) .nil))) (.cons (.ret (.lc (.call i_minus (.cons (.tup (.cons (.var 3) (.cons (.con (.int 1)) .nil))) (.cons (.call i_times (.cons (.tup (.cons (.var 2) (.cons (.con (.int 1)) .nil))) (.cons (.var 4) .nil))) .nil))) (.tup [.nm 3, .nm 4]) (.zip (.var 1) (.var 0)) [3, 4])) .nil)
def fd_offs_in : FD := ⟨2, 5, b_offs_in⟩
def df_row_off_in : Df := ⟨"row_off_in", ["shares", "row"], ["shares", "row", "found", "counts", "party", "top", "bottom"], defArgs (top 37), defBody (top 37), defScope (top 37)⟩
def b_row_off_in : Ss := .cons (.par 2 3 (.con c_ZERO) (.bin .Mult (.lst (.cons (.con (.int 0)) .nil)) (.blt .len (.cons (.var 0) .nil)))) (.cons (.fr (.nm 4) (.val (.var 1)) (.cons (.augS (.var 3) (.var 4) .Add (.con (.int 1))) (.cons (.fr (.tup [.nm 5, .nm 6]) (.val (.call i_offs_in (.cons (.var 0) (.cons (.var 3) .nil)))) (.cons (.ife (.tst (.call i_is_less (.cons (.var 2) (.cons (.tup (.cons (.blt .abs (.cons (.var 5) .nil)) (.cons (.var 6) .nil))) .nil)))) (.cons (.asg (.nm 2) (.tup (.cons (.blt .abs (.cons (.var 5) .nil)) (.cons (.var 6) .nil)))) .nil) .nil) .nil)) .nil))) (.cons (.ret (.var 2)) .nil))
def fd_row_off_in : FD := ⟨2, 7, b_row_off_in⟩
def df_bound_in : Df := ⟨"bound_in", ["shares"], ["shares", "pairs"], defArgs (top 38), defBody (top 38), defScope (top 38)⟩
def b_bound_in : Ss := .cons (.asg (.nm 1) (.bin .Sub (.bin .Mult (.con (.int 2)) (.blt .len (.cons (.var 0) .nil))) (.con (.int 2)))) (.cons (.ret (.call i_fraction (.cons (.bin .Sub (.var 1) (.con (.int 1))) (.cons (.var 1) .nil)))) .nil)
def fd_bound_in : FD := ⟨1, 2, b_bound_in⟩
def df_require_spread_row : Df := ⟨"require_spread_row", ["shares", "row"], ["shares", "row"], defArgs (top 39), defBody (top 39), defScope (top 39)⟩
def b_require_spread_row : Ss := .cons (.exp (.call i_require_shares (.cons (.var 0) .nil))) (.cons (.ife (.not (.tst (.call i_is_row_in (.cons (.var 0) (.cons (.var 1) .nil))))) (.cons .rai .nil) .nil) .nil)
def fd_require_spread_row : FD := ⟨2, 2, b_require_spread_row⟩
def df_counts_of : Df := ⟨"counts_of", ["shares", "row"], ["shares", "row"], defArgs (top 40), defBody (top 40), defScope (top 40)⟩
def b_counts_of : Ss := .cons (.exp (.call i_require_spread_row (.cons (.var 0) (.cons (.var 1) .nil)))) (.cons (.ret (.blt .tuple (.cons (.call i_counts_in (.cons (.var 0) (.cons (.var 1) .nil))) .nil))) .nil)
def fd_counts_of : FD := ⟨2, 2, b_counts_of⟩
def df_off_at : Df := ⟨"off_at", ["shares", "row", "k"], ["shares", "row", "k"], defArgs (top 41), defBody (top 41), defScope (top 41)⟩
def b_off_at : Ss := .cons (.exp (.call i_require_spread_row (.cons (.var 0) (.cons (.var 1) .nil)))) (.cons (.exp (.call i_require_number (.cons (.var 2) (.cons (.con (.int 0)) (.cons (.blt .len (.cons (.var 1) .nil)) .nil))))) (.cons (.ret (.blt .tuple (.cons (.call i_offs_in (.cons (.var 0) (.cons (.call i_counts_in (.cons (.var 0) (.cons (.slcT (.var 1) (.var 2)) .nil))) .nil))) .nil))) .nil))
def fd_off_at : FD := ⟨3, 3, b_off_at⟩
def df_off_of : Df := ⟨"off_of", ["shares", "row"], ["shares", "row"], defArgs (top 42), defBody (top 42), defScope (top 42)⟩
def b_off_of : Ss := .cons (.exp (.call i_require_spread_row (.cons (.var 0) (.cons (.var 1) .nil)))) (.cons (.ret (.call i_row_off_in (.cons (.var 0) (.cons (.var 1) .nil)))) .nil)
def fd_off_of : FD := ⟨2, 2, b_off_of⟩
def df_keeps_within : Df := ⟨"keeps_within", ["shares", "row", "bound"], ["shares", "row", "bound"], defArgs (top 43), defBody (top 43), defScope (top 43)⟩
def b_keeps_within : Ss := .cons (.exp (.call i_require_spread_row (.cons (.var 0) (.cons (.var 1) .nil)))) (.cons (.ife (.or (.not (.tst (.call i_is_near_fraction (.cons (.var 2) .nil)))) (.cmp .Lt (.idx (.var 2) (.con (.int 0))) (.con (.int 0)))) (.cons .rai .nil) .nil) (.cons (.ret (.call i_is_at_most (.cons (.call i_row_off_in (.cons (.var 0) (.cons (.var 1) .nil))) (.cons (.var 2) .nil)))) .nil))
def fd_keeps_within : FD := ⟨3, 3, b_keeps_within⟩
def df_is_spread : Df := ⟨"is_spread", ["shares", "row"], ["shares", "row"], defArgs (top 44), defBody (top 44), defScope (top 44)⟩
def b_is_spread : Ss := .cons (.exp (.call i_require_spread_row (.cons (.var 0) (.cons (.var 1) .nil)))) (.cons (.ret (.call i_is_at_most (.cons (.call i_row_off_in (.cons (.var 0) (.cons (.var 1) .nil))) (.cons (.call i_bound_in (.cons (.var 0) .nil)) .nil)))) .nil)
def fd_is_spread : FD := ⟨2, 2, b_is_spread⟩
def df__law_dice : Df := ⟨"_law_dice", ["script", "spot"], ["script", "spot", "cell", "left"], defArgs (top 46), defBody (top 46), defScope (top 46)⟩
def b__law_dice : Ss := .cons (.asg (.nm 2) (.ite (.cmp .Lt (.var 1) (.blt .len (.cons (.var 0) .nil))) (.blt .int (.cons (.idx (.var 0) (.var 1)) .nil)) (.bin .Add (.bin .Mult (.con (.int 97)) (.var 1)) (.con (.int 43))))) (.cons (.asg (.nm 3) (.bin .Mod (.blt .max (.cons (.con (.int 0)) (.cons (.bin .Sub (.blt .abs (.cons (.var 2) .nil)) (.bin .Pow (.con (.int 10)) (.con (.int 17)))) .nil))) (.bin .Mult (.bin .Pow (.con (.int 10)) (.con (.int 60))) (.bin .Pow (.con (.int 10)) (.con (.int 60)))))) (.cons (.ret (.lst (.cons (.var 3) (.cons (.bin .Add (.bin .Add (.bin .Add (.bin .Mult (.bin .Mod (.blt .abs (.cons (.var 2) .nil)) (.con (.int 1152921504606846737))) (.con (.int 37))) (.bin .Mult (.con (.int 859)) (.var 1))) (.bin .Mult (.con (.int 31)) (.blt .int (.cons (.cmp .Lt (.var 2) (.con (.int 0))) .nil)))) (.con (.int 17))) (.cons (.con (.int 0)) .nil))))) .nil))
def fd__law_dice : FD := ⟨2, 4, b__law_dice⟩
def df__law_roll : Df := ⟨"_law_roll", ["dice", "total"], ["dice", "total", "found", "one", "two"], defArgs (top 47), defBody (top 47), defScope (top 47)⟩
def b__law_roll : Ss := .cons (.ife (.cmp .Gt (.idx (.var 0) (.con (.int 0))) (.con (.int 0))) (.cons (.asg (.nm 2) (.bin .Mod (.blt .int (.cons (.idx (.var 0) (.con (.int 0))) .nil)) (.var 1))) (.cons (.sset (.var 0) (.con (.int 0)) (.bin .FloorDiv (.idx (.var 0) (.con (.int 0))) (.var 1))) (.cons (.ret (.var 2)) .nil))) .nil) (.cons (.sset (.var 0) (.con (.int 2)) (.bin .Add (.idx (.var 0) (.con (.int 2))) (.con (.int 1)))) (.cons (.asg (.nm 3) (.bin .Mod (.blt .int (.cons (.bin .Add (.idx (.var 0) (.con (.int 1))) (.bin .Mult (.con (.int 15486209)) (.idx (.var 0) (.con (.int 2))))) .nil)) (.con (.int 2305843009213693951)))) (.cons (.asg (.nm 4) (.bin .Add (.bin .Mult (.bin .Mod (.blt .int (.cons (.bin .Add (.bin .Mult (.var 3) (.var 3)) (.bin .Mult (.con (.int 199)) (.idx (.var 0) (.con (.int 2))))) .nil)) (.con (.int 2305843009213693907))) (.con (.int 7368751))) (.var 3))) (.cons (.ret (.bin .Mod (.blt .int (.cons (.bin .FloorDiv (.var 4) (.con (.int 65536))) .nil)) (.var 1))) .nil))))
def fd__law_roll : FD := ⟨2, 5, b__law_roll⟩
def df__law_divisor : Df := ⟨"_law_divisor", ["one", "other"], ["one", "other"], defArgs (top 48), defBody (top 48), defScope (top 48)⟩
def b__law_divisor : Ss := .cons (.par 0 1 (.blt .abs (.cons (.var 0) .nil)) (.blt .abs (.cons (.var 1) .nil))) (.cons (.whl (.cmp .Gt (.var 1) (.con (.int 0))) (.cons (.par 0 1 (.var 1) (.bin .Mod (.blt .int (.cons (.var 0) .nil)) (.var 1))) .nil)) (.cons (.ret (.var 0)) .nil))
def fd__law_divisor : FD := ⟨2, 2, b__law_divisor⟩
def df__law_fraction : Df := ⟨"_law_fraction", ["top", "bottom"], ["top", "bottom", "shared"], defArgs (top 49), defBody (top 49), defScope (top 49)⟩
def b__law_fraction : Ss := .cons (.asg (.nm 2) (.bin .Mult (.call i__law_divisor (.cons (.var 0) (.cons (.var 1) .nil))) (.ite (.cmp .Gt (.var 1) (.con (.int 0))) (.con (.int 1)) (.neg (.con (.int 1)))))) (.cons (.ret (.tup (.cons (.bin .FloorDiv (.var 0) (.var 2)) (.cons (.bin .FloorDiv (.var 1) (.var 2)) .nil)))) .nil)
def fd__law_fraction : FD := ⟨2, 3, b__law_fraction⟩
def df__law_fr_plus : Df := ⟨"_law_fr_plus", ["one", "other"], ["one", "other"], defArgs (top 50), defBody (top 50), defScope (top 50)⟩
def b__law_fr_plus : Ss := .cons (.ret (.call i__law_fraction (.cons (.bin .Add (.bin .Mult (.idx (.var 0) (.con (.int 0))) (.idx (.var 1) (.con (.int 1)))) (.bin .Mult (.idx (.var 1) (.con (.int 0))) (.idx (.var 0) (.con (.int 1))))) (.cons (.bin .Mult (.idx (.var 0) (.con (.int 1))) (.idx (.var 1) (.con (.int 1)))) .nil)))) .nil
def fd__law_fr_plus : FD := ⟨2, 2, b__law_fr_plus⟩
def df__law_fr_times : Df := ⟨"_law_fr_times", ["one", "other"], ["one", "other"], defArgs (top 51), defBody (top 51), defScope (top 51)⟩
def b__law_fr_times : Ss := .cons (.ret (.call i__law_fraction (.cons (.bin .Mult (.idx (.var 0) (.con (.int 0))) (.idx (.var 1) (.con (.int 0)))) (.cons (.bin .Mult (.idx (.var 0) (.con (.int 1))) (.idx (.var 1) (.con (.int 1)))) .nil)))) .nil
def fd__law_fr_times : FD := ⟨2, 2, b__law_fr_times⟩
def df__law_fr_less : Df := ⟨"_law_fr_less", ["one", "other"], ["one", "other"], defArgs (top 52), defBody (top 52), defScope (top 52)⟩
def b__law_fr_less : Ss := .cons (.ret (.cmp .Lt (.bin .Mult (.idx (.var 0) (.con (.int 0))) (.idx (.var 1) (.con (.int 1)))) (.bin .Mult (.idx (.var 1) (.con (.int 0))) (.idx (.var 0) (.con (.int 1)))))) .nil
def fd__law_fr_less : FD := ⟨2, 2, b__law_fr_less⟩
def df__law_shares : Df := ⟨"_law_shares", ["dice", "most"], ["dice", "most", "n", "parts", "party", "part"], defArgs (top 53), defBody (top 53), defScope (top 53)⟩
def b__law_shares : Ss := .cons (.asg (.nm 2) (.bin .Add (.con (.int 2)) (.call i__law_roll (.cons (.var 0) (.cons (.bin .Sub (.var 1) (.con (.int 1))) .nil))))) (.cons (.asg (.nm 3) (.lc (.bin .Add (.con (.int 1)) (.call i__law_roll (.cons (.var 0) (.cons (.con (.int 9)) .nil)))) (.nm 4) (.rng1 (.var 2)) [4])) (.cons (.ife (.cmp .Eq (.call i__law_roll (.cons (.var 0) (.cons (.con (.int 4)) .nil))) (.con (.int 0))) (.cons (.asg (.nm 3) (.bin .Mult (.lst (.cons (.con (.int 1)) .nil)) (.var 2))) .nil) .nil) (.cons (.ife (.cmp .Eq (.call i__law_roll (.cons (.var 0) (.cons (.con (.int 4)) .nil))) (.con (.int 0))) (.cons (.sset (.var 3) (.con (.int 0)) (.bin .Add (.idx (.var 3) (.con (.int 0))) (.con (.int 50)))) .nil) .nil) (.cons (.ret (.blt .tuple (.cons (.lc (.call i__law_fraction (.cons (.var 5) (.cons (.blt .sum (.cons (.var 3) .nil)) .nil))) (.nm 5) (.val (.var 3)) [5]) .nil))) .nil))))
def fd__law_shares : FD := ⟨2, 6, b__law_shares⟩
def df__law_re_minus : Df := ⟨"_law_re_minus", ["one", "other"], ["one", "other"], defArgs (top 54), defBody (top 54), defScope (top 54)⟩
def b__law_re_minus : Ss := .cons (.ret (.call i__law_fr_plus (.cons (.var 0) (.cons (.tup (.cons (.bin .Sub (.con (.int 0)) (.idx (.var 1) (.con (.int 0)))) (.cons (.idx (.var 1) (.con (.int 1))) .nil))) .nil)))) .nil
def fd__law_re_minus : FD := ⟨2, 2, b__law_re_minus⟩
def df__law_sp_offs : Df := ⟨"_law_sp_offs", ["shares", "row", "k"], ["shares", "row", "k", "i", "share"], defArgs (top 55), defBody (top 55), defScope (top 55)⟩
def b__law_sp_offs : Ss := .cons (.ret (.lc (.call i__law_re_minus (.cons (.tup (.cons (.mth .count (.slcT (.var 1) (.var 2)) (.cons (.var 3) .nil)) (.cons (.con (.int 1)) .nil))) (.cons (.call i__law_fr_times (.cons (.tup (.cons (.var 2) (.cons (.con (.int 1)) .nil))) (.cons (.var 4) .nil))) .nil))) (.tup [.nm 3, .nm 4]) (.enum (.var 0)) [3, 4])) .nil
def fd__law_sp_offs : FD := ⟨3, 5, b__law_sp_offs⟩
def df__law_sp_off : Df := ⟨"_law_sp_off", ["shares", "row"], ["shares", "row", "best", "k", "top", "bottom"], defArgs (top 56), defBody (top 56), defScope (top 56)⟩
def b__law_sp_off : Ss := .cons (.asg (.nm 2) (.tup (.cons (.con (.int 0)) (.cons (.con (.int 1)) .nil)))) (.cons (.fr (.nm 3) (.rng1 (.bin .Add (.blt .len (.cons (.var 1) .nil)) (.con (.int 1)))) (.cons (.fr (.tup [.nm 4, .nm 5]) (.val (.call i__law_sp_offs (.cons (.var 0) (.cons (.var 1) (.cons (.var 3) .nil))))) (.cons (.asg (.nm 2) (.ite (.tst (.call i__law_fr_less (.cons (.var 2) (.cons (.tup (.cons (.blt .abs (.cons (.var 4) .nil)) (.cons (.var 5) .nil))) .nil)))) (.tup (.cons (.blt .abs (.cons (.var 4) .nil)) (.cons (.var 5) .nil))) (.var 2))) .nil)) .nil)) (.cons (.ret (.var 2)) .nil))
def fd__law_sp_off : FD := ⟨2, 6, b__law_sp_off⟩
def df__law_sp_bound : Df := ⟨"_law_sp_bound", ["shares"], ["shares"], defArgs (top 57), defBody (top 57), defScope (top 57)⟩
def b__law_sp_bound : Ss := .cons (.ret (.call i__law_fraction (.cons (.bin .Sub (.bin .Mult (.con (.int 2)) (.blt .len (.cons (.var 0) .nil))) (.con (.int 3))) (.cons (.bin .Sub (.bin .Mult (.con (.int 2)) (.blt .len (.cons (.var 0) .nil))) (.con (.int 2))) .nil)))) .nil
def fd__law_sp_bound : FD := ⟨1, 1, b__law_sp_bound⟩
def df__law_row : Df := ⟨"_law_row", ["dice", "shares", "length"], ["dice", "shares", "length", "row", "at", "offs", "best", "i"], defArgs (top 58), defBody (top 58), defScope (top 58)⟩
def b__law_row : Ss := .cons (.asg (.nm 3) (.tup .nil)) (.cons (.fr (.nm 4) (.rng1 (.var 2)) (.cons (.asg (.nm 5) (.call i__law_sp_offs (.cons (.var 1) (.cons (.var 3) (.cons (.var 4) .nil))))) (.cons (.asg (.nm 6) (.con (.int 0))) (.cons (.fr (.nm 7) (.rng2 (.con (.int 1)) (.blt .len (.cons (.var 1) .nil))) (.cons (.asg (.nm 6) (.ite (.tst (.call i__law_fr_less (.cons (.idx (.var 5) (.var 7)) (.cons (.idx (.var 5) (.var 6)) .nil)))) (.var 7) (.var 6))) .nil)) (.cons (.asg (.nm 3) (.bin .Add (.var 3) (.tup (.cons (.ite (.cmp .Gt (.call i__law_roll (.cons (.var 0) (.cons (.con (.int 4)) .nil))) (.con (.int 0))) (.var 6) (.call i__law_roll (.cons (.var 0) (.cons (.blt .len (.cons (.var 1) .nil)) .nil)))) .nil)))) .nil))))) (.cons (.ret (.var 3)) .nil))
def fd__law_row : FD := ⟨3, 8, b__law_row⟩
def df__law_right : Df := ⟨"_law_right", ["dice"], ["dice", "shares", "row", "k", "due", "total", "one", "most", "is_due", "near", "bound", "i"], defArgs (top 59), defBody (top 59), defScope (top 59)⟩
def b__law_right : Ss := .cons (.asg (.nm 1) (.call i__law_shares (.cons (.var 0) (.cons (.con (.int 8)) .nil)))) (.cons (.asg (.nm 2) (.call i__law_row (.cons (.var 0) (.cons (.var 1) (.cons (.call i__law_roll (.cons (.var 0) (.cons (.idx (.lst (.cons (.con (.int 5)) (.cons (.con (.int 12)) (.cons (.con (.int 30)) .nil)))) (.call i__law_roll (.cons (.var 0) (.cons (.con (.int 3)) .nil)))) .nil))) .nil))))) (.cons (.ife (.cmp .Eq (.call i__law_roll (.cons (.var 0) (.cons (.con (.int 9)) .nil))) (.con (.int 0))) (.cons (.asg (.nm 2) (.bin .Mult (.tup (.cons (.call i__law_roll (.cons (.var 0) (.cons (.blt .len (.cons (.var 1) .nil)) .nil))) .nil)) (.con (.int 60)))) .nil) .nil) (.cons (.ife (.cmp .NotEq (.blt .repr (.cons (.call i_counts_of (.cons (.var 1) (.cons (.var 2) .nil))) .nil)) (.blt .repr (.cons (.blt .tuple (.cons (.lc (.mth .count (.var 2) (.cons (.var 11) .nil)) (.nm 11) (.rng1 (.blt .len (.cons (.var 1) .nil))) [11]) .nil)) .nil))) (.cons (.ret (.con (.bl false))) .nil) .nil) (.cons (.fr (.nm 3) (.val (.tup (.cons (.con (.int 0)) (.cons (.blt .len (.cons (.var 2) .nil)) (.cons (.call i__law_roll (.cons (.var 0) (.cons (.bin .Add (.blt .len (.cons (.var 2) .nil)) (.con (.int 1))) .nil))) .nil))))) (.cons (.asg (.nm 4) (.call i__law_sp_offs (.cons (.var 1) (.cons (.var 2) (.cons (.var 3) .nil))))) (.cons (.ife (.cmp .NotEq (.call i_off_at (.cons (.var 1) (.cons (.var 2) (.cons (.var 3) .nil)))) (.blt .tuple (.cons (.var 4) .nil))) (.cons (.ret (.con (.bl false))) .nil) .nil) (.cons (.asg (.nm 5) (.tup (.cons (.con (.int 0)) (.cons (.con (.int 1)) .nil)))) (.cons (.fr (.nm 6) (.val (.var 4)) (.cons (.asg (.nm 5) (.call i__law_fr_plus (.cons (.var 5) (.cons (.var 6) .nil)))) .nil)) (.cons (.ife (.cmp .NotEq (.var 5) (.tup (.cons (.con (.int 0)) (.cons (.con (.int 1)) .nil)))) (.cons (.ret (.con (.bl false))) .nil) .nil) .nil)))))) (.cons (.asg (.nm 7) (.call i__law_sp_off (.cons (.var 1) (.cons (.var 2) .nil)))) (.cons (.asg (.nm 8) (.not (.tst (.call i__law_fr_less (.cons (.call i__law_sp_bound (.cons (.var 1) .nil)) (.cons (.var 7) .nil)))))) (.cons (.ife (.or (.cmp .NotEq (.call i_off_of (.cons (.var 1) (.cons (.var 2) .nil))) (.var 7)) (.cmp .NotEq (.blt .repr (.cons (.call i_is_spread (.cons (.var 1) (.cons (.var 2) .nil))) .nil)) (.blt .repr (.cons (.var 8) .nil)))) (.cons (.ret (.con (.bl false))) .nil) .nil) (.cons (.asg (.nm 9) (.lst (.cons (.var 7) (.cons (.call i__law_fr_plus (.cons (.var 7) (.cons (.tup (.cons (.con (.int 1)) (.cons (.con (.int 1000)) .nil))) .nil))) (.cons (.tup (.cons (.con (.int 0)) (.cons (.con (.int 1)) .nil))) (.cons (.tup (.cons (.con (.int 1)) (.cons (.con (.int 2)) .nil))) (.cons (.tup (.cons (.con (.int 1)) (.cons (.con (.int 1)) .nil))) .nil))))))) (.cons (.ife (.cmp .NotEq (.var 7) (.tup (.cons (.con (.int 0)) (.cons (.con (.int 1)) .nil)))) (.cons (.exp (.mth .append (.var 9) (.cons (.call i__law_fraction (.cons (.bin .Sub (.bin .Mult (.idx (.var 7) (.con (.int 0))) (.con (.int 1000))) (.con (.int 1))) (.cons (.bin .Mult (.idx (.var 7) (.con (.int 1))) (.con (.int 1000))) .nil))) .nil))) .nil) .nil) (.cons (.fr (.nm 10) (.val (.var 9)) (.cons (.ife (.cmp .NotEq (.blt .repr (.cons (.call i_keeps_within (.cons (.var 1) (.cons (.var 2) (.cons (.var 10) .nil)))) .nil)) (.blt .repr (.cons (.not (.tst (.call i__law_fr_less (.cons (.var 10) (.cons (.var 7) .nil))))) .nil))) (.cons (.ret (.con (.bl false))) .nil) .nil) .nil)) (.cons (.ife (.cmp .Eq (.lci (.var 6) (.nm 6) (.val (.call i__law_sp_offs (.cons (.var 1) (.cons (.var 2) (.cons (.blt .len (.cons (.var 2) .nil)) .nil))))) (.cmp .NotEq (.var 6) (.tup (.cons (.con (.int 0)) (.cons (.con (.int 1)) .nil)))) [6]) (.lst .nil)) (.cons (.ret (.cmp .Eq (.call i_off_of (.cons (.var 1) (.cons (.slc3 (.var 2) 2) .nil))) (.var 7))) .nil) .nil) (.cons (.ret (.con (.bl true))) .nil))))))))))))
def fd__law_right : FD := ⟨1, 12, b__law_right⟩
def df_law : Df := ⟨"law", ["script"], ["script", "spot", "dice", "turn", "six", "two", "told"], defArgs (top 60), defBody (top 60), defScope (top 60)⟩
def b_law : Ss := .cons (.fr (.nm 1) (.rng1 (.blt .max (.cons (.con (.int 1)) (.cons (.blt .min (.cons (.con (.int 5)) (.cons (.blt .len (.cons (.var 0) .nil)) .nil))) .nil)))) (.cons (.asg (.nm 2) (.call i__law_dice (.cons (.var 0) (.cons (.var 1) .nil)))) (.cons (.fr (.nm 3) (.rng1 (.con (.int 4))) (.cons (.ife (.not (.tst (.call i__law_right (.cons (.var 2) .nil)))) (.cons (.ret (.con (.bl false))) .nil) .nil) .nil)) .nil))) (.cons (.asg (.tup [.nm 4, .nm 5]) (.tup (.cons (.tup (.cons (.tup (.cons (.con (.int 1)) (.cons (.con (.int 2)) .nil))) (.cons (.tup (.cons (.con (.int 1)) (.cons (.con (.int 3)) .nil))) (.cons (.tup (.cons (.con (.int 1)) (.cons (.con (.int 6)) .nil))) .nil)))) (.cons (.tup (.cons (.tup (.cons (.con (.int 2)) (.cons (.con (.int 3)) .nil))) (.cons (.tup (.cons (.con (.int 1)) (.cons (.con (.int 3)) .nil))) .nil))) .nil)))) (.cons (.asg (.nm 6) (.lst (.cons (.call i_off_of (.cons (.var 4) (.cons (.tup (.cons (.con (.int 0)) (.cons (.con (.int 1)) (.cons (.con (.int 0)) (.cons (.con (.int 2)) (.cons (.con (.int 1)) (.cons (.con (.int 0)) .nil))))))) .nil))) (.cons (.call i_off_at (.cons (.var 4) (.cons (.tup (.cons (.con (.int 0)) (.cons (.con (.int 1)) (.cons (.con (.int 0)) .nil)))) (.cons (.con (.int 2)) .nil)))) (.cons (.call i_counts_of (.cons (.var 4) (.cons (.tup (.cons (.con (.int 0)) (.cons (.con (.int 1)) (.cons (.con (.int 0)) .nil)))) .nil))) (.cons (.call i_off_of (.cons (.var 5) (.cons (.tup (.cons (.con (.int 1)) .nil)) .nil))) .nil)))))) (.cons (.asg (.nm 6) (.bin .Add (.var 6) (.lst (.cons (.call i_keeps_within (.cons (.var 5) (.cons (.tup (.cons (.con (.int 0)) (.cons (.con (.int 1)) (.cons (.con (.int 0)) .nil)))) (.cons (.tup (.cons (.con (.int 1)) (.cons (.con (.int 3)) .nil))) .nil)))) (.cons (.call i_is_spread (.cons (.var 5) (.cons (.tup (.cons (.con (.int 1)) .nil)) .nil))) (.cons (.call i_keeps_within (.cons (.var 4) (.cons (.tup .nil) (.cons (.tup (.cons (.con (.int 0)) (.cons (.con (.int 1)) .nil))) .nil)))) .nil)))))) (.cons (.ret (.cmp .Eq (.var 6) (.lst (.cons (.tup (.cons (.con (.int 1)) (.cons (.con (.int 2)) .nil))) (.cons (.tup (.cons (.tup (.cons (.con (.int 0)) (.cons (.con (.int 1)) .nil))) (.cons (.tup (.cons (.con (.int 1)) (.cons (.con (.int 3)) .nil))) (.cons (.tup (.cons (.neg (.con (.int 1))) (.cons (.con (.int 3)) .nil))) .nil)))) (.cons (.tup (.cons (.con (.int 2)) (.cons (.con (.int 1)) (.cons (.con (.int 0)) .nil)))) (.cons (.tup (.cons (.con (.int 2)) (.cons (.con (.int 3)) .nil))) (.cons (.con (.bl true)) (.cons (.con (.bl false)) (.cons (.con (.bl true)) .nil)))))))))) .nil))))
def fd_law : FD := ⟨1, 7, b_law⟩
def ds : List Df := [df_is_whole, df_is_near, df_is_within, df_is_pair, df_require_number, df_common_divisor, df_fraction, df_plus, df_minus, df_times, df_is_less, df_is_at_most, df_is_fraction, df_is_near_fraction, df_added, df_is_shares_in, df_require_shares, df_is_row_in, df_counts_in, df_offs_in, df_row_off_in, df_bound_in, df_require_spread_row, df_counts_of, df_off_at, df_off_of, df_keeps_within, df_is_spread, df__law_dice, df__law_roll, df__law_divisor, df__law_fraction, df__law_fr_plus, df__law_fr_times, df__law_fr_less, df__law_shares, df__law_re_minus, df__law_sp_offs, df__law_sp_off, df__law_sp_bound, df__law_row, df__law_right, df_law]
def fs : List FD := [fd_is_whole, fd_is_near, fd_is_within, fd_is_pair, fd_require_number, fd_common_divisor, fd_fraction, fd_plus, fd_minus, fd_times, fd_is_less, fd_is_at_most, fd_is_fraction, fd_is_near_fraction, fd_added, fd_is_shares_in, fd_require_shares, fd_is_row_in, fd_counts_in, fd_offs_in, fd_row_off_in, fd_bound_in, fd_require_spread_row, fd_counts_of, fd_off_at, fd_off_of, fd_keeps_within, fd_is_spread, fd__law_dice, fd__law_roll, fd__law_divisor, fd__law_fraction, fd__law_fr_plus, fd__law_fr_times, fd__law_fr_less, fd__law_shares, fd__law_re_minus, fd__law_sp_offs, fd__law_sp_off, fd__law_sp_bound, fd__law_row, fd__law_right, fd_law]
abbrev tab : Tab := tabOf ds cs
theorem ok_is_whole : df_is_whole.Ok tab fd_is_whole := ⟨⟨rfl, rfl, rfl, by decide +kernel, rfl, by decide +kernel, by decide +kernel⟩, rfl, rfl, by kernel_rfl⟩
theorem ok_is_near : df_is_near.Ok tab fd_is_near := ⟨⟨rfl, rfl, rfl, by decide +kernel, rfl, by decide +kernel, by decide +kernel⟩, rfl, rfl, by kernel_rfl⟩
theorem ok_is_within : df_is_within.Ok tab fd_is_within := ⟨⟨rfl, rfl, rfl, by decide +kernel, rfl, by decide +kernel, by decide +kernel⟩, rfl, rfl, by kernel_rfl⟩
theorem ok_is_pair : df_is_pair.Ok tab fd_is_pair := ⟨⟨rfl, rfl, rfl, by decide +kernel, rfl, by decide +kernel, by decide +kernel⟩, rfl, rfl, by kernel_rfl⟩
theorem ok_require_number : df_require_number.Ok tab fd_require_number := ⟨⟨rfl, rfl, rfl, by decide +kernel, rfl, by decide +kernel, by decide +kernel⟩, rfl, rfl, by kernel_rfl⟩
theorem ok_common_divisor : df_common_divisor.Ok tab fd_common_divisor := ⟨⟨rfl, rfl, rfl, by decide +kernel, rfl, by decide +kernel, by decide +kernel⟩, rfl, rfl, by kernel_rfl⟩
theorem ok_fraction : df_fraction.Ok tab fd_fraction := ⟨⟨rfl, rfl, rfl, by decide +kernel, rfl, by decide +kernel, by decide +kernel⟩, rfl, rfl, by kernel_rfl⟩
theorem ok_plus : df_plus.Ok tab fd_plus := ⟨⟨rfl, rfl, rfl, by decide +kernel, rfl, by decide +kernel, by decide +kernel⟩, rfl, rfl, by kernel_rfl⟩
theorem ok_minus : df_minus.Ok tab fd_minus := ⟨⟨rfl, rfl, rfl, by decide +kernel, rfl, by decide +kernel, by decide +kernel⟩, rfl, rfl, by kernel_rfl⟩
theorem ok_times : df_times.Ok tab fd_times := ⟨⟨rfl, rfl, rfl, by decide +kernel, rfl, by decide +kernel, by decide +kernel⟩, rfl, rfl, by kernel_rfl⟩
theorem ok_is_less : df_is_less.Ok tab fd_is_less := ⟨⟨rfl, rfl, rfl, by decide +kernel, rfl, by decide +kernel, by decide +kernel⟩, rfl, rfl, by kernel_rfl⟩
theorem ok_is_at_most : df_is_at_most.Ok tab fd_is_at_most := ⟨⟨rfl, rfl, rfl, by decide +kernel, rfl, by decide +kernel, by decide +kernel⟩, rfl, rfl, by kernel_rfl⟩
theorem ok_is_fraction : df_is_fraction.Ok tab fd_is_fraction := ⟨⟨rfl, rfl, rfl, by decide +kernel, rfl, by decide +kernel, by decide +kernel⟩, rfl, rfl, by kernel_rfl⟩
theorem ok_is_near_fraction : df_is_near_fraction.Ok tab fd_is_near_fraction := ⟨⟨rfl, rfl, rfl, by decide +kernel, rfl, by decide +kernel, by decide +kernel⟩, rfl, rfl, by kernel_rfl⟩
theorem ok_added : df_added.Ok tab fd_added := ⟨⟨rfl, rfl, rfl, by decide +kernel, rfl, by decide +kernel, by decide +kernel⟩, rfl, rfl, by kernel_rfl⟩
theorem ok_is_shares_in : df_is_shares_in.Ok tab fd_is_shares_in := ⟨⟨rfl, rfl, rfl, by decide +kernel, rfl, by decide +kernel, by decide +kernel⟩, rfl, rfl, by kernel_rfl⟩
theorem ok_require_shares : df_require_shares.Ok tab fd_require_shares := ⟨⟨rfl, rfl, rfl, by decide +kernel, rfl, by decide +kernel, by decide +kernel⟩, rfl, rfl, by kernel_rfl⟩
theorem ok_is_row_in : df_is_row_in.Ok tab fd_is_row_in := ⟨⟨rfl, rfl, rfl, by decide +kernel, rfl, by decide +kernel, by decide +kernel⟩, rfl, rfl, by kernel_rfl⟩
theorem ok_counts_in : df_counts_in.Ok tab fd_counts_in := ⟨⟨rfl, rfl, rfl, by decide +kernel, rfl, by decide +kernel, by decide +kernel⟩, rfl, rfl, by kernel_rfl⟩
theorem ok_offs_in : df_offs_in.Ok tab fd_offs_in := ⟨⟨rfl, rfl, rfl, by decide +kernel, rfl, by decide +kernel, by decide +kernel⟩, rfl, rfl, by kernel_rfl⟩
theorem ok_row_off_in : df_row_off_in.Ok tab fd_row_off_in := ⟨⟨rfl, rfl, rfl, by decide +kernel, rfl, by decide +kernel, by decide +kernel⟩, rfl, rfl, by kernel_rfl⟩
theorem ok_bound_in : df_bound_in.Ok tab fd_bound_in := ⟨⟨rfl, rfl, rfl, by decide +kernel, rfl, by decide +kernel, by decide +kernel⟩, rfl, rfl, by kernel_rfl⟩
theorem ok_require_spread_row : df_require_spread_row.Ok tab fd_require_spread_row := ⟨⟨rfl, rfl, rfl, by decide +kernel, rfl, by decide +kernel, by decide +kernel⟩, rfl, rfl, by kernel_rfl⟩
theorem ok_counts_of : df_counts_of.Ok tab fd_counts_of := ⟨⟨rfl, rfl, rfl, by decide +kernel, rfl, by decide +kernel, by decide +kernel⟩, rfl, rfl, by kernel_rfl⟩
theorem ok_off_at : df_off_at.Ok tab fd_off_at := ⟨⟨rfl, rfl, rfl, by decide +kernel, rfl, by decide +kernel, by decide +kernel⟩, rfl, rfl, by kernel_rfl⟩
theorem ok_off_of : df_off_of.Ok tab fd_off_of := ⟨⟨rfl, rfl, rfl, by decide +kernel, rfl, by decide +kernel, by decide +kernel⟩, rfl, rfl, by kernel_rfl⟩
theorem ok_keeps_within : df_keeps_within.Ok tab fd_keeps_within := ⟨⟨rfl, rfl, rfl, by decide +kernel, rfl, by decide +kernel, by decide +kernel⟩, rfl, rfl, by kernel_rfl⟩
theorem ok_is_spread : df_is_spread.Ok tab fd_is_spread := ⟨⟨rfl, rfl, rfl, by decide +kernel, rfl, by decide +kernel, by decide +kernel⟩, rfl, rfl, by kernel_rfl⟩
theorem ok__law_dice : df__law_dice.Ok tab fd__law_dice := ⟨⟨rfl, rfl, rfl, by decide +kernel, rfl, by decide +kernel, by decide +kernel⟩, rfl, rfl, by kernel_rfl⟩
theorem ok__law_roll : df__law_roll.Ok tab fd__law_roll := ⟨⟨rfl, rfl, rfl, by decide +kernel, rfl, by decide +kernel, by decide +kernel⟩, rfl, rfl, by kernel_rfl⟩
theorem ok__law_divisor : df__law_divisor.Ok tab fd__law_divisor := ⟨⟨rfl, rfl, rfl, by decide +kernel, rfl, by decide +kernel, by decide +kernel⟩, rfl, rfl, by kernel_rfl⟩
theorem ok__law_fraction : df__law_fraction.Ok tab fd__law_fraction := ⟨⟨rfl, rfl, rfl, by decide +kernel, rfl, by decide +kernel, by decide +kernel⟩, rfl, rfl, by kernel_rfl⟩
theorem ok__law_fr_plus : df__law_fr_plus.Ok tab fd__law_fr_plus := ⟨⟨rfl, rfl, rfl, by decide +kernel, rfl, by decide +kernel, by decide +kernel⟩, rfl, rfl, by kernel_rfl⟩
theorem ok__law_fr_times : df__law_fr_times.Ok tab fd__law_fr_times := ⟨⟨rfl, rfl, rfl, by decide +kernel, rfl, by decide +kernel, by decide +kernel⟩, rfl, rfl, by kernel_rfl⟩
theorem ok__law_fr_less : df__law_fr_less.Ok tab fd__law_fr_less := ⟨⟨rfl, rfl, rfl, by decide +kernel, rfl, by decide +kernel, by decide +kernel⟩, rfl, rfl, by kernel_rfl⟩
theorem ok__law_shares : df__law_shares.Ok tab fd__law_shares := ⟨⟨rfl, rfl, rfl, by decide +kernel, rfl, by decide +kernel, by decide +kernel⟩, rfl, rfl, by kernel_rfl⟩
theorem ok__law_re_minus : df__law_re_minus.Ok tab fd__law_re_minus := ⟨⟨rfl, rfl, rfl, by decide +kernel, rfl, by decide +kernel, by decide +kernel⟩, rfl, rfl, by kernel_rfl⟩
theorem ok__law_sp_offs : df__law_sp_offs.Ok tab fd__law_sp_offs := ⟨⟨rfl, rfl, rfl, by decide +kernel, rfl, by decide +kernel, by decide +kernel⟩, rfl, rfl, by kernel_rfl⟩
theorem ok__law_sp_off : df__law_sp_off.Ok tab fd__law_sp_off := ⟨⟨rfl, rfl, rfl, by decide +kernel, rfl, by decide +kernel, by decide +kernel⟩, rfl, rfl, by kernel_rfl⟩
theorem ok__law_sp_bound : df__law_sp_bound.Ok tab fd__law_sp_bound := ⟨⟨rfl, rfl, rfl, by decide +kernel, rfl, by decide +kernel, by decide +kernel⟩, rfl, rfl, by kernel_rfl⟩
theorem ok__law_row : df__law_row.Ok tab fd__law_row := ⟨⟨rfl, rfl, rfl, by decide +kernel, rfl, by decide +kernel, by decide +kernel⟩, rfl, rfl, by kernel_rfl⟩
theorem ok__law_right : df__law_right.Ok tab fd__law_right := ⟨⟨rfl, rfl, rfl, by decide +kernel, rfl, by decide +kernel, by decide +kernel⟩, rfl, rfl, by kernel_rfl⟩
theorem ok_law : df_law.Ok tab fd_law := ⟨⟨rfl, rfl, rfl, by decide +kernel, rfl, by decide +kernel, by decide +kernel⟩, rfl, rfl, by kernel_rfl⟩
theorem okAll : AllOk tab ds fs := .cons ok_is_whole <| .cons ok_is_near <| .cons ok_is_within <| .cons ok_is_pair <| .cons ok_require_number <| .cons ok_common_divisor <| .cons ok_fraction <| .cons ok_plus <| .cons ok_minus <| .cons ok_times <| .cons ok_is_less <| .cons ok_is_at_most <| .cons ok_is_fraction <| .cons ok_is_near_fraction <| .cons ok_added <| .cons ok_is_shares_in <| .cons ok_require_shares <| .cons ok_is_row_in <| .cons ok_counts_in <| .cons ok_offs_in <| .cons ok_row_off_in <| .cons ok_bound_in <| .cons ok_require_spread_row <| .cons ok_counts_of <| .cons ok_off_at <| .cons ok_off_of <| .cons ok_keeps_within <| .cons ok_is_spread <| .cons ok__law_dice <| .cons ok__law_roll <| .cons ok__law_divisor <| .cons ok__law_fraction <| .cons ok__law_fr_plus <| .cons ok__law_fr_times <| .cons ok__law_fr_less <| .cons ok__law_shares <| .cons ok__law_re_minus <| .cons ok__law_sp_offs <| .cons ok__law_sp_off <| .cons ok__law_sp_bound <| .cons ok__law_row <| .cons ok__law_right <| .cons ok_law <| .nil
theorem bd_is_whole : ∀ (kV doc pm : Value) (an : Option Addr) (cdv ct : Value) (us : List Value), us.length = df_is_whole.ps.length → bindArgs (PySem.W.fnOf df_is_whole.name df_is_whole.name df_is_whole.args df_is_whole.body df_is_whole.scope .none kV doc pm an cdv ct) ⟨us, []⟩ = pure (df_is_whole.ps.zip us) := fun _ _ _ _ _ _ us hl => match us, hl with
  | [_], _ => rfl
theorem bd_is_near : ∀ (kV doc pm : Value) (an : Option Addr) (cdv ct : Value) (us : List Value), us.length = df_is_near.ps.length → bindArgs (PySem.W.fnOf df_is_near.name df_is_near.name df_is_near.args df_is_near.body df_is_near.scope .none kV doc pm an cdv ct) ⟨us, []⟩ = pure (df_is_near.ps.zip us) := fun _ _ _ _ _ _ us hl => match us, hl with
  | [_], _ => rfl
theorem bd_is_within : ∀ (kV doc pm : Value) (an : Option Addr) (cdv ct : Value) (us : List Value), us.length = df_is_within.ps.length → bindArgs (PySem.W.fnOf df_is_within.name df_is_within.name df_is_within.args df_is_within.body df_is_within.scope .none kV doc pm an cdv ct) ⟨us, []⟩ = pure (df_is_within.ps.zip us) := fun _ _ _ _ _ _ us hl => match us, hl with
  | [_, _, _], _ => rfl
theorem bd_is_pair : ∀ (kV doc pm : Value) (an : Option Addr) (cdv ct : Value) (us : List Value), us.length = df_is_pair.ps.length → bindArgs (PySem.W.fnOf df_is_pair.name df_is_pair.name df_is_pair.args df_is_pair.body df_is_pair.scope .none kV doc pm an cdv ct) ⟨us, []⟩ = pure (df_is_pair.ps.zip us) := fun _ _ _ _ _ _ us hl => match us, hl with
  | [_], _ => rfl
theorem bd_require_number : ∀ (kV doc pm : Value) (an : Option Addr) (cdv ct : Value) (us : List Value), us.length = df_require_number.ps.length → bindArgs (PySem.W.fnOf df_require_number.name df_require_number.name df_require_number.args df_require_number.body df_require_number.scope .none kV doc pm an cdv ct) ⟨us, []⟩ = pure (df_require_number.ps.zip us) := fun _ _ _ _ _ _ us hl => match us, hl with
  | [_, _, _], _ => rfl
theorem bd_common_divisor : ∀ (kV doc pm : Value) (an : Option Addr) (cdv ct : Value) (us : List Value), us.length = df_common_divisor.ps.length → bindArgs (PySem.W.fnOf df_common_divisor.name df_common_divisor.name df_common_divisor.args df_common_divisor.body df_common_divisor.scope .none kV doc pm an cdv ct) ⟨us, []⟩ = pure (df_common_divisor.ps.zip us) := fun _ _ _ _ _ _ us hl => match us, hl with
  | [_, _], _ => rfl
theorem bd_fraction : ∀ (kV doc pm : Value) (an : Option Addr) (cdv ct : Value) (us : List Value), us.length = df_fraction.ps.length → bindArgs (PySem.W.fnOf df_fraction.name df_fraction.name df_fraction.args df_fraction.body df_fraction.scope .none kV doc pm an cdv ct) ⟨us, []⟩ = pure (df_fraction.ps.zip us) := fun _ _ _ _ _ _ us hl => match us, hl with
  | [_, _], _ => rfl
theorem bd_plus : ∀ (kV doc pm : Value) (an : Option Addr) (cdv ct : Value) (us : List Value), us.length = df_plus.ps.length → bindArgs (PySem.W.fnOf df_plus.name df_plus.name df_plus.args df_plus.body df_plus.scope .none kV doc pm an cdv ct) ⟨us, []⟩ = pure (df_plus.ps.zip us) := fun _ _ _ _ _ _ us hl => match us, hl with
  | [_, _], _ => rfl
theorem bd_minus : ∀ (kV doc pm : Value) (an : Option Addr) (cdv ct : Value) (us : List Value), us.length = df_minus.ps.length → bindArgs (PySem.W.fnOf df_minus.name df_minus.name df_minus.args df_minus.body df_minus.scope .none kV doc pm an cdv ct) ⟨us, []⟩ = pure (df_minus.ps.zip us) := fun _ _ _ _ _ _ us hl => match us, hl with
  | [_, _], _ => rfl
theorem bd_times : ∀ (kV doc pm : Value) (an : Option Addr) (cdv ct : Value) (us : List Value), us.length = df_times.ps.length → bindArgs (PySem.W.fnOf df_times.name df_times.name df_times.args df_times.body df_times.scope .none kV doc pm an cdv ct) ⟨us, []⟩ = pure (df_times.ps.zip us) := fun _ _ _ _ _ _ us hl => match us, hl with
  | [_, _], _ => rfl
theorem bd_is_less : ∀ (kV doc pm : Value) (an : Option Addr) (cdv ct : Value) (us : List Value), us.length = df_is_less.ps.length → bindArgs (PySem.W.fnOf df_is_less.name df_is_less.name df_is_less.args df_is_less.body df_is_less.scope .none kV doc pm an cdv ct) ⟨us, []⟩ = pure (df_is_less.ps.zip us) := fun _ _ _ _ _ _ us hl => match us, hl with
  | [_, _], _ => rfl
theorem bd_is_at_most : ∀ (kV doc pm : Value) (an : Option Addr) (cdv ct : Value) (us : List Value), us.length = df_is_at_most.ps.length → bindArgs (PySem.W.fnOf df_is_at_most.name df_is_at_most.name df_is_at_most.args df_is_at_most.body df_is_at_most.scope .none kV doc pm an cdv ct) ⟨us, []⟩ = pure (df_is_at_most.ps.zip us) := fun _ _ _ _ _ _ us hl => match us, hl with
  | [_, _], _ => rfl
theorem bd_is_fraction : ∀ (kV doc pm : Value) (an : Option Addr) (cdv ct : Value) (us : List Value), us.length = df_is_fraction.ps.length → bindArgs (PySem.W.fnOf df_is_fraction.name df_is_fraction.name df_is_fraction.args df_is_fraction.body df_is_fraction.scope .none kV doc pm an cdv ct) ⟨us, []⟩ = pure (df_is_fraction.ps.zip us) := fun _ _ _ _ _ _ us hl => match us, hl with
  | [_], _ => rfl
theorem bd_is_near_fraction : ∀ (kV doc pm : Value) (an : Option Addr) (cdv ct : Value) (us : List Value), us.length = df_is_near_fraction.ps.length → bindArgs (PySem.W.fnOf df_is_near_fraction.name df_is_near_fraction.name df_is_near_fraction.args df_is_near_fraction.body df_is_near_fraction.scope .none kV doc pm an cdv ct) ⟨us, []⟩ = pure (df_is_near_fraction.ps.zip us) := fun _ _ _ _ _ _ us hl => match us, hl with
  | [_], _ => rfl
theorem bd_added : ∀ (kV doc pm : Value) (an : Option Addr) (cdv ct : Value) (us : List Value), us.length = df_added.ps.length → bindArgs (PySem.W.fnOf df_added.name df_added.name df_added.args df_added.body df_added.scope .none kV doc pm an cdv ct) ⟨us, []⟩ = pure (df_added.ps.zip us) := fun _ _ _ _ _ _ us hl => match us, hl with
  | [_], _ => rfl
theorem bd_is_shares_in : ∀ (kV doc pm : Value) (an : Option Addr) (cdv ct : Value) (us : List Value), us.length = df_is_shares_in.ps.length → bindArgs (PySem.W.fnOf df_is_shares_in.name df_is_shares_in.name df_is_shares_in.args df_is_shares_in.body df_is_shares_in.scope .none kV doc pm an cdv ct) ⟨us, []⟩ = pure (df_is_shares_in.ps.zip us) := fun _ _ _ _ _ _ us hl => match us, hl with
  | [_], _ => rfl
theorem bd_require_shares : ∀ (kV doc pm : Value) (an : Option Addr) (cdv ct : Value) (us : List Value), us.length = df_require_shares.ps.length → bindArgs (PySem.W.fnOf df_require_shares.name df_require_shares.name df_require_shares.args df_require_shares.body df_require_shares.scope .none kV doc pm an cdv ct) ⟨us, []⟩ = pure (df_require_shares.ps.zip us) := fun _ _ _ _ _ _ us hl => match us, hl with
  | [_], _ => rfl
theorem bd_is_row_in : ∀ (kV doc pm : Value) (an : Option Addr) (cdv ct : Value) (us : List Value), us.length = df_is_row_in.ps.length → bindArgs (PySem.W.fnOf df_is_row_in.name df_is_row_in.name df_is_row_in.args df_is_row_in.body df_is_row_in.scope .none kV doc pm an cdv ct) ⟨us, []⟩ = pure (df_is_row_in.ps.zip us) := fun _ _ _ _ _ _ us hl => match us, hl with
  | [_, _], _ => rfl
theorem bd_counts_in : ∀ (kV doc pm : Value) (an : Option Addr) (cdv ct : Value) (us : List Value), us.length = df_counts_in.ps.length → bindArgs (PySem.W.fnOf df_counts_in.name df_counts_in.name df_counts_in.args df_counts_in.body df_counts_in.scope .none kV doc pm an cdv ct) ⟨us, []⟩ = pure (df_counts_in.ps.zip us) := fun _ _ _ _ _ _ us hl => match us, hl with
  | [_, _], _ => rfl
theorem bd_offs_in : ∀ (kV doc pm : Value) (an : Option Addr) (cdv ct : Value) (us : List Value), us.length = df_offs_in.ps.length → bindArgs (PySem.W.fnOf df_offs_in.name df_offs_in.name df_offs_in.args df_offs_in.body df_offs_in.scope .none kV doc pm an cdv ct) ⟨us, []⟩ = pure (df_offs_in.ps.zip us) := fun _ _ _ _ _ _ us hl => match us, hl with
  | [_, _], _ => rfl
theorem bd_row_off_in : ∀ (kV doc pm : Value) (an : Option Addr) (cdv ct : Value) (us : List Value), us.length = df_row_off_in.ps.length → bindArgs (PySem.W.fnOf df_row_off_in.name df_row_off_in.name df_row_off_in.args df_row_off_in.body df_row_off_in.scope .none kV doc pm an cdv ct) ⟨us, []⟩ = pure (df_row_off_in.ps.zip us) := fun _ _ _ _ _ _ us hl => match us, hl with
  | [_, _], _ => rfl
theorem bd_bound_in : ∀ (kV doc pm : Value) (an : Option Addr) (cdv ct : Value) (us : List Value), us.length = df_bound_in.ps.length → bindArgs (PySem.W.fnOf df_bound_in.name df_bound_in.name df_bound_in.args df_bound_in.body df_bound_in.scope .none kV doc pm an cdv ct) ⟨us, []⟩ = pure (df_bound_in.ps.zip us) := fun _ _ _ _ _ _ us hl => match us, hl with
  | [_], _ => rfl
theorem bd_require_spread_row : ∀ (kV doc pm : Value) (an : Option Addr) (cdv ct : Value) (us : List Value), us.length = df_require_spread_row.ps.length → bindArgs (PySem.W.fnOf df_require_spread_row.name df_require_spread_row.name df_require_spread_row.args df_require_spread_row.body df_require_spread_row.scope .none kV doc pm an cdv ct) ⟨us, []⟩ = pure (df_require_spread_row.ps.zip us) := fun _ _ _ _ _ _ us hl => match us, hl with
  | [_, _], _ => rfl
theorem bd_counts_of : ∀ (kV doc pm : Value) (an : Option Addr) (cdv ct : Value) (us : List Value), us.length = df_counts_of.ps.length → bindArgs (PySem.W.fnOf df_counts_of.name df_counts_of.name df_counts_of.args df_counts_of.body df_counts_of.scope .none kV doc pm an cdv ct) ⟨us, []⟩ = pure (df_counts_of.ps.zip us) := fun _ _ _ _ _ _ us hl => match us, hl with
  | [_, _], _ => rfl
theorem bd_off_at : ∀ (kV doc pm : Value) (an : Option Addr) (cdv ct : Value) (us : List Value), us.length = df_off_at.ps.length → bindArgs (PySem.W.fnOf df_off_at.name df_off_at.name df_off_at.args df_off_at.body df_off_at.scope .none kV doc pm an cdv ct) ⟨us, []⟩ = pure (df_off_at.ps.zip us) := fun _ _ _ _ _ _ us hl => match us, hl with
  | [_, _, _], _ => rfl
theorem bd_off_of : ∀ (kV doc pm : Value) (an : Option Addr) (cdv ct : Value) (us : List Value), us.length = df_off_of.ps.length → bindArgs (PySem.W.fnOf df_off_of.name df_off_of.name df_off_of.args df_off_of.body df_off_of.scope .none kV doc pm an cdv ct) ⟨us, []⟩ = pure (df_off_of.ps.zip us) := fun _ _ _ _ _ _ us hl => match us, hl with
  | [_, _], _ => rfl
theorem bd_keeps_within : ∀ (kV doc pm : Value) (an : Option Addr) (cdv ct : Value) (us : List Value), us.length = df_keeps_within.ps.length → bindArgs (PySem.W.fnOf df_keeps_within.name df_keeps_within.name df_keeps_within.args df_keeps_within.body df_keeps_within.scope .none kV doc pm an cdv ct) ⟨us, []⟩ = pure (df_keeps_within.ps.zip us) := fun _ _ _ _ _ _ us hl => match us, hl with
  | [_, _, _], _ => rfl
theorem bd_is_spread : ∀ (kV doc pm : Value) (an : Option Addr) (cdv ct : Value) (us : List Value), us.length = df_is_spread.ps.length → bindArgs (PySem.W.fnOf df_is_spread.name df_is_spread.name df_is_spread.args df_is_spread.body df_is_spread.scope .none kV doc pm an cdv ct) ⟨us, []⟩ = pure (df_is_spread.ps.zip us) := fun _ _ _ _ _ _ us hl => match us, hl with
  | [_, _], _ => rfl
theorem bd__law_dice : ∀ (kV doc pm : Value) (an : Option Addr) (cdv ct : Value) (us : List Value), us.length = df__law_dice.ps.length → bindArgs (PySem.W.fnOf df__law_dice.name df__law_dice.name df__law_dice.args df__law_dice.body df__law_dice.scope .none kV doc pm an cdv ct) ⟨us, []⟩ = pure (df__law_dice.ps.zip us) := fun _ _ _ _ _ _ us hl => match us, hl with
  | [_, _], _ => rfl
theorem bd__law_roll : ∀ (kV doc pm : Value) (an : Option Addr) (cdv ct : Value) (us : List Value), us.length = df__law_roll.ps.length → bindArgs (PySem.W.fnOf df__law_roll.name df__law_roll.name df__law_roll.args df__law_roll.body df__law_roll.scope .none kV doc pm an cdv ct) ⟨us, []⟩ = pure (df__law_roll.ps.zip us) := fun _ _ _ _ _ _ us hl => match us, hl with
  | [_, _], _ => rfl
theorem bd__law_divisor : ∀ (kV doc pm : Value) (an : Option Addr) (cdv ct : Value) (us : List Value), us.length = df__law_divisor.ps.length → bindArgs (PySem.W.fnOf df__law_divisor.name df__law_divisor.name df__law_divisor.args df__law_divisor.body df__law_divisor.scope .none kV doc pm an cdv ct) ⟨us, []⟩ = pure (df__law_divisor.ps.zip us) := fun _ _ _ _ _ _ us hl => match us, hl with
  | [_, _], _ => rfl
theorem bd__law_fraction : ∀ (kV doc pm : Value) (an : Option Addr) (cdv ct : Value) (us : List Value), us.length = df__law_fraction.ps.length → bindArgs (PySem.W.fnOf df__law_fraction.name df__law_fraction.name df__law_fraction.args df__law_fraction.body df__law_fraction.scope .none kV doc pm an cdv ct) ⟨us, []⟩ = pure (df__law_fraction.ps.zip us) := fun _ _ _ _ _ _ us hl => match us, hl with
  | [_, _], _ => rfl
theorem bd__law_fr_plus : ∀ (kV doc pm : Value) (an : Option Addr) (cdv ct : Value) (us : List Value), us.length = df__law_fr_plus.ps.length → bindArgs (PySem.W.fnOf df__law_fr_plus.name df__law_fr_plus.name df__law_fr_plus.args df__law_fr_plus.body df__law_fr_plus.scope .none kV doc pm an cdv ct) ⟨us, []⟩ = pure (df__law_fr_plus.ps.zip us) := fun _ _ _ _ _ _ us hl => match us, hl with
  | [_, _], _ => rfl
theorem bd__law_fr_times : ∀ (kV doc pm : Value) (an : Option Addr) (cdv ct : Value) (us : List Value), us.length = df__law_fr_times.ps.length → bindArgs (PySem.W.fnOf df__law_fr_times.name df__law_fr_times.name df__law_fr_times.args df__law_fr_times.body df__law_fr_times.scope .none kV doc pm an cdv ct) ⟨us, []⟩ = pure (df__law_fr_times.ps.zip us) := fun _ _ _ _ _ _ us hl => match us, hl with
  | [_, _], _ => rfl
theorem bd__law_fr_less : ∀ (kV doc pm : Value) (an : Option Addr) (cdv ct : Value) (us : List Value), us.length = df__law_fr_less.ps.length → bindArgs (PySem.W.fnOf df__law_fr_less.name df__law_fr_less.name df__law_fr_less.args df__law_fr_less.body df__law_fr_less.scope .none kV doc pm an cdv ct) ⟨us, []⟩ = pure (df__law_fr_less.ps.zip us) := fun _ _ _ _ _ _ us hl => match us, hl with
  | [_, _], _ => rfl
theorem bd__law_shares : ∀ (kV doc pm : Value) (an : Option Addr) (cdv ct : Value) (us : List Value), us.length = df__law_shares.ps.length → bindArgs (PySem.W.fnOf df__law_shares.name df__law_shares.name df__law_shares.args df__law_shares.body df__law_shares.scope .none kV doc pm an cdv ct) ⟨us, []⟩ = pure (df__law_shares.ps.zip us) := fun _ _ _ _ _ _ us hl => match us, hl with
  | [_, _], _ => rfl
theorem bd__law_re_minus : ∀ (kV doc pm : Value) (an : Option Addr) (cdv ct : Value) (us : List Value), us.length = df__law_re_minus.ps.length → bindArgs (PySem.W.fnOf df__law_re_minus.name df__law_re_minus.name df__law_re_minus.args df__law_re_minus.body df__law_re_minus.scope .none kV doc pm an cdv ct) ⟨us, []⟩ = pure (df__law_re_minus.ps.zip us) := fun _ _ _ _ _ _ us hl => match us, hl with
  | [_, _], _ => rfl
theorem bd__law_sp_offs : ∀ (kV doc pm : Value) (an : Option Addr) (cdv ct : Value) (us : List Value), us.length = df__law_sp_offs.ps.length → bindArgs (PySem.W.fnOf df__law_sp_offs.name df__law_sp_offs.name df__law_sp_offs.args df__law_sp_offs.body df__law_sp_offs.scope .none kV doc pm an cdv ct) ⟨us, []⟩ = pure (df__law_sp_offs.ps.zip us) := fun _ _ _ _ _ _ us hl => match us, hl with
  | [_, _, _], _ => rfl
theorem bd__law_sp_off : ∀ (kV doc pm : Value) (an : Option Addr) (cdv ct : Value) (us : List Value), us.length = df__law_sp_off.ps.length → bindArgs (PySem.W.fnOf df__law_sp_off.name df__law_sp_off.name df__law_sp_off.args df__law_sp_off.body df__law_sp_off.scope .none kV doc pm an cdv ct) ⟨us, []⟩ = pure (df__law_sp_off.ps.zip us) := fun _ _ _ _ _ _ us hl => match us, hl with
  | [_, _], _ => rfl
theorem bd__law_sp_bound : ∀ (kV doc pm : Value) (an : Option Addr) (cdv ct : Value) (us : List Value), us.length = df__law_sp_bound.ps.length → bindArgs (PySem.W.fnOf df__law_sp_bound.name df__law_sp_bound.name df__law_sp_bound.args df__law_sp_bound.body df__law_sp_bound.scope .none kV doc pm an cdv ct) ⟨us, []⟩ = pure (df__law_sp_bound.ps.zip us) := fun _ _ _ _ _ _ us hl => match us, hl with
  | [_], _ => rfl
theorem bd__law_row : ∀ (kV doc pm : Value) (an : Option Addr) (cdv ct : Value) (us : List Value), us.length = df__law_row.ps.length → bindArgs (PySem.W.fnOf df__law_row.name df__law_row.name df__law_row.args df__law_row.body df__law_row.scope .none kV doc pm an cdv ct) ⟨us, []⟩ = pure (df__law_row.ps.zip us) := fun _ _ _ _ _ _ us hl => match us, hl with
  | [_, _, _], _ => rfl
theorem bd__law_right : ∀ (kV doc pm : Value) (an : Option Addr) (cdv ct : Value) (us : List Value), us.length = df__law_right.ps.length → bindArgs (PySem.W.fnOf df__law_right.name df__law_right.name df__law_right.args df__law_right.body df__law_right.scope .none kV doc pm an cdv ct) ⟨us, []⟩ = pure (df__law_right.ps.zip us) := fun _ _ _ _ _ _ us hl => match us, hl with
  | [_], _ => rfl
theorem bd_law : ∀ (kV doc pm : Value) (an : Option Addr) (cdv ct : Value) (us : List Value), us.length = df_law.ps.length → bindArgs (PySem.W.fnOf df_law.name df_law.name df_law.args df_law.body df_law.scope .none kV doc pm an cdv ct) ⟨us, []⟩ = pure (df_law.ps.zip us) := fun _ _ _ _ _ _ us hl => match us, hl with
  | [_], _ => rfl
theorem bdAll : ∀ d ∈ ds, ∀ (kV doc pm : Value) (an : Option Addr) (cdv ct : Value) (us : List Value), us.length = d.ps.length → bindArgs (PySem.W.fnOf d.name d.name d.args d.body d.scope .none kV doc pm an cdv ct) ⟨us, []⟩ = pure (d.ps.zip us) := by
  intro d hd
  simp only [ds, List.mem_cons, List.not_mem_nil, or_false] at hd
  rcases hd with rfl | rfl | rfl | rfl | rfl | rfl | rfl | rfl | rfl | rfl | rfl | rfl | rfl | rfl | rfl | rfl | rfl | rfl | rfl | rfl | rfl | rfl | rfl | rfl | rfl | rfl | rfl | rfl | rfl | rfl | rfl | rfl | rfl | rfl | rfl | rfl | rfl | rfl | rfl | rfl | rfl | rfl | rfl
  · exact bd_is_whole
  · exact bd_is_near
  · exact bd_is_within
  · exact bd_is_pair
  · exact bd_require_number
  · exact bd_common_divisor
  · exact bd_fraction
  · exact bd_plus
  · exact bd_minus
  · exact bd_times
  · exact bd_is_less
  · exact bd_is_at_most
  · exact bd_is_fraction
  · exact bd_is_near_fraction
  · exact bd_added
  · exact bd_is_shares_in
  · exact bd_require_shares
  · exact bd_is_row_in
  · exact bd_counts_in
  · exact bd_offs_in
  · exact bd_row_off_in
  · exact bd_bound_in
  · exact bd_require_spread_row
  · exact bd_counts_of
  · exact bd_off_at
  · exact bd_off_of
  · exact bd_keeps_within
  · exact bd_is_spread
  · exact bd__law_dice
  · exact bd__law_roll
  · exact bd__law_divisor
  · exact bd__law_fraction
  · exact bd__law_fr_plus
  · exact bd__law_fr_times
  · exact bd__law_fr_less
  · exact bd__law_shares
  · exact bd__law_re_minus
  · exact bd__law_sp_offs
  · exact bd__law_sp_off
  · exact bd__law_sp_bound
  · exact bd__law_row
  · exact bd__law_right
  · exact bd_law
end K58
end
section
set_option Elab.async false
set_option linter.all false
set_option maxRecDepth 100000
set_option maxHeartbeats 1000000
set_option exponentiation.threshold 20000
/-! K58p: what the defs of k58 compute. -/
namespace K58
open PySem Mi
theorem lev {n k : Nat} (h : k + 1 ≤ n) : ∃ m, n = m + 1 ∧ k ≤ m := ⟨n - 1, by omega, by omega⟩
theorem hF {m : Nat} (h : 2 ≤ m) : Frac fs m i_fraction := frac_of (j := i_common_divisor) rfl (.inl rfl) h
theorem hFL {m : Nat} (h : 2 ≤ m) : Frac fs m i__law_fraction := frac_of (j := i__law_divisor) rfl (.inr rfl) h
section
variable {n : Nat} {M : Mem} {p q : Rat}
theorem s_is_whole {x : Int} (h : 1 ≤ n) : run fs n i_is_whole [.int x] M = .ok (.bl true) M := by
  obtain ⟨m, rfl, hm⟩ := lev h
  refine run_pp (fd := fd_is_whole) (G := []) rfl ⟨rfl, Nat.le_refl _⟩ rfl ?_ rfl
  show (evSs _ b_is_whole [some (.int x)] []).res = _
  simp [b_is_whole]
theorem s_is_within {x lo hi : Int} (h : 2 ≤ n) (h1 : lo ≤ x) (h2 : x ≤ hi) : run fs n i_is_within [.int x, .int lo, .int hi] M = .ok (.bl true) M := by
  obtain ⟨m, rfl, hm⟩ := lev h
  refine run_pp (fd := fd_is_within) (G := []) rfl ⟨rfl, Nat.le_refl _⟩ rfl ?_ rfl
  show (evSs _ b_is_within [some (.int x), some (.int lo), some (.int hi)] []).res = _
  simp [b_is_within, s_is_whole hm, h1, h2]
theorem s_is_near {x : Int} (h : 2 ≤ n) (h1 : -(10 ^ 60) < x) (h2 : x < 10 ^ 60) : run fs n i_is_near [.int x] M = .ok (.bl true) M := by
  obtain ⟨m, rfl, hm⟩ := lev h
  refine run_pp (fd := fd_is_near) (G := []) rfl ⟨rfl, Nat.le_refl _⟩ rfl ?_ rfl
  show (evSs _ b_is_near [some (.int x)] []).res = _
  have e1 : decide (-1000000000000000000000000000000000000000000000000000000000000 < x) = true := decide_eq_true (by omega)
  have e2 : decide (x < 1000000000000000000000000000000000000000000000000000000000000) = true := decide_eq_true (by omega)
  simp only [b_is_near, evSs_cons, evS_ret, evE_and, evE_call, evEs_cons, evEs_nil, evE_var, List.getElem?_cons_zero, getV_some, bind_ok, s_is_whole hm, onBl_t, evE_chn, evE_neg, evE_con, intR_int, c_lt, e1, e2, out_ok, next_ret, res_ret]
theorem s_is_pair {a b : D} (h : 1 ≤ n) (ha : pureD a = true) (hb : pureD b = true) : run fs n i_is_pair [.tup [a, b]] M = .ok (.bl true) M := by
  obtain ⟨m, rfl, hm⟩ := lev h
  refine run_pp (fd := fd_is_pair) (G := []) rfl ⟨rfl, Nat.le_refl _⟩ (by simp [ha, hb]) ?_ rfl
  show (evSs _ b_is_pair [some (.tup [a, b])] []).res = _
  simp [b_is_pair]
theorem s_divisor1 (h : 1 ≤ n) (hq : Bd 3000 q) : run fs n i_common_divisor [.int q.num, .int (q.den : Int)] M = .ok (.int 1) M := by
  have e : Int.gcd q.num (q.den : Int) = 1 := by
    show Nat.gcd q.num.natAbs ((q.den : Int).natAbs) = 1
    rw [Int.natAbs_natCast]
    exact q.reduced
  rw [s_divisor (fs := fs) rfl h (by rw [Int.natAbs_natCast]; exact bits_num hq.2 (by decide)), e]
  rfl
theorem s_is_fraction (h : 2 ≤ n) (hq : Bd 3000 q) : run fs n i_is_fraction [fr q] M = .ok (.bl true) M := by
  obtain ⟨m, rfl, hm⟩ := lev h
  refine run_pp (fd := fd_is_fraction) (G := []) rfl ⟨rfl, Nat.le_refl _⟩ rfl ?_ rfl
  show (evSs _ b_is_fraction [some (.tup [.int q.num, .int (q.den : Int)])] []).res = _
  have d := Rat.den_pos q
  have e1 : ¬ ((q.den : Int) < 1) := by omega
  have e2 := fun M => s_is_pair (a := .int q.num) (b := .int (q.den : Int)) (M := M) hm rfl rfl
  simp [b_is_fraction, e2, s_is_whole hm, e1, s_divisor1 hm hq]
theorem s_is_near_fraction (h : 3 ≤ n) (h1 : q.num.natAbs < 10 ^ 60) (h2 : q.den < 10 ^ 60) : run fs n i_is_near_fraction [fr q] M = .ok (.bl true) M := by
  obtain ⟨m, rfl, hm⟩ := lev h
  refine run_pp (fd := fd_is_near_fraction) (G := []) rfl ⟨rfl, Nat.le_refl _⟩ rfl ?_ rfl
  have e : Bd 3000 q := ⟨Nat.lt_of_lt_of_le h1 (by decide +kernel), Nat.lt_of_lt_of_le h2 (by decide +kernel)⟩
  show (evSs _ b_is_near_fraction [some (fr q)] []).res = _
  simp only [b_is_near_fraction, evSs_cons, evS_ret, evE_and, evE_call, evEs_cons, evEs_nil, evE_var, List.getElem?_cons_zero, getV_some, bind_ok, s_is_fraction hm e, onBl_t, evE_idx, evE_con]
  simp only [fr, ix0, ix1, bind_ok, s_is_near hm (by omega) (by omega : q.num < 10 ^ 60), onBl_t, s_is_near (x := (q.den : Int)) hm (by omega) (by omega), out_ok, next_ret, res_ret]
theorem s_plus (h : 3 ≤ n) {b : Nat} (hb : b ≤ 3000) (hp : Bd b p) (hq : Bd b q) : run fs n i_plus [fr p, fr q] M = .ok (fr (p + q)) M := Mi.s_plus (j := i_fraction) rfl (fun m hm => hF hm) h hb hp hq
theorem s_minus (h : 3 ≤ n) {b : Nat} (hb : b ≤ 3000) (hp : Bd b p) (hq : Bd b q) : run fs n i_minus [fr p, fr q] M = .ok (fr (p - q)) M := Mi.s_minus (j := i_fraction) rfl (fun m hm => hF hm) h hb hp hq
theorem s_times (h : 3 ≤ n) {b : Nat} (hb : b ≤ 3000) (hp : Bd b p) (hq : Bd b q) : run fs n i_times [fr p, fr q] M = .ok (fr (p * q)) M := Mi.s_times (j := i_fraction) rfl (fun m hm => hF hm) h hb hp hq
theorem s_less (h : 1 ≤ n) {b : Nat} (hb : b ≤ 3000) (hp : Bd b p) (hq : Bd b q) : run fs n i_is_less [fr p, fr q] M = .ok (.bl (decide (p < q))) M := Mi.s_less rfl h hb hp hq
theorem s_most (h : 1 ≤ n) {b : Nat} (hb : b ≤ 3000) (hp : Bd b p) (hq : Bd b q) : run fs n i_is_at_most [fr p, fr q] M = .ok (.bl (decide (p ≤ q))) M := Mi.s_most rfl h hb hp hq
theorem s_lplus (h : 3 ≤ n) {b : Nat} (hb : b ≤ 3000) (hp : Bd b p) (hq : Bd b q) : run fs n i__law_fr_plus [fr p, fr q] M = .ok (fr (p + q)) M := Mi.s_plus (j := i__law_fraction) rfl (fun m hm => hFL hm) h hb hp hq
theorem s_ltimes (h : 3 ≤ n) {b : Nat} (hb : b ≤ 3000) (hp : Bd b p) (hq : Bd b q) : run fs n i__law_fr_times [fr p, fr q] M = .ok (fr (p * q)) M := Mi.s_times (j := i__law_fraction) rfl (fun m hm => hFL hm) h hb hp hq
theorem s_lless (h : 1 ≤ n) {b : Nat} (hb : b ≤ 3000) (hp : Bd b p) (hq : Bd b q) : run fs n i__law_fr_less [fr p, fr q] M = .ok (.bl (decide (p < q))) M := Mi.s_less rfl h hb hp hq

/-! ### shares -/
def sumR (qs : List Rat) : Rat := qs.foldl (· + ·) 0
structure Shares (qs : List Rat) : Prop where
  l2 : 2 ≤ qs.length
  l8 : qs.length ≤ 8
  pos : ∀ q ∈ qs, 0 < q.num
  den : ∀ q ∈ qs, q.den ≤ 1000
  num : ∀ q ∈ qs, q.num ≤ 1000
  sum : sumR qs = 1
abbrev shD (qs : List Rat) : D := .tup (qs.map fr)
theorem pure_frs : ∀ qs : List Rat, pureL (qs.map fr) = true
  | [] => rfl
  | q :: qs => by rw [List.map_cons, pure_cons, pure_fr, pure_frs qs]; rfl
theorem Shares.bd {qs : List Rat} (S : Shares qs) {q : Rat} (h : q ∈ qs) : Bd 10 q := by
  have h1 := S.pos q h
  have h2 := S.den q h
  have h3 := S.num q h
  exact ⟨by omega, by omega⟩
theorem sum_take {qs : List Rat} {i : Nat} {q : Rat} (h : qs[i]? = some q) : sumR (qs.take (i + 1)) = sumR (qs.take i) + q := by
  unfold sumR
  rw [List.take_add_one, h, List.foldl_append]
  rfl
theorem sum_bd {qs : List Rat} (h : ∀ q ∈ qs, Bd 10 q) : ∀ i, i ≤ qs.length → Bd (1 + 11 * i) (sumR (qs.take i))
  | 0, _ => ⟨by show (0 : Int).natAbs < 2; decide, by show 1 < 2; decide⟩
  | i + 1, hi => by
    have e : qs[i]? = some qs[i] := List.getElem?_eq_getElem hi
    rw [sum_take e]
    have := add_bd2 (sum_bd h i (by omega)) (h _ (List.getElem_mem hi))
    exact this.mono (by omega)
theorem map_get {α β : Type} {l : List α} {f : α → β} {i : Nat} {d : β} (h : (l.map f)[i]? = some d) : ∃ a, l[i]? = some a ∧ d = f a := by
  rw [List.getElem?_map] at h
  cases e : l[i]? with
  | none => rw [e] at h; cases h
  | some a => rw [e] at h; cases h; exact ⟨a, rfl, rfl⟩
theorem s_added {qs : List Rat} (h : 4 ≤ n) (hq : ∀ q ∈ qs, Bd 10 q) (hl : qs.length ≤ 100) : run fs n i_added [shD qs] M = .ok (fr (sumR qs)) M := by
  obtain ⟨m, rfl, hm⟩ := lev h
  refine run_pp (fd := fd_added) (G := []) rfl ⟨rfl, by show 1 ≤ 3; decide⟩ (by simp [pure_frs]) ?_ rfl
  show (evSs _ b_added [some (shD qs), none, none] []).res = _
  obtain ⟨ρ', M', e1, e2, o, e3⟩ := fr_rule (F := run fs m) (t := .nm 2) (it := .val (.var 0)) (b := .cons (.asg (.nm 1) (.call i_plus (.cons (.var 1) (.cons (.var 2) .nil)))) .nil) (ρ := [some (shD qs), some (fr 0), none]) (M := []) (M1 := []) (sr := .tup (qs.map fr)) (ys := qs.map fr)
    (fun i ρ M => M = [] ∧ ∃ o, ρ = [some (shD qs), some (fr (sumR (qs.take i))), o]) (by simp) (fun i ρ M hM h => at_tup h) (by simp [LIM]; omega) ⟨rfl, none, rfl⟩ (fun i d ρ M hd ⟨hM, o, hρ⟩ => by
      subst hM hρ
      obtain ⟨q, hq1, rfl⟩ := map_get hd
      have hi := (List.getElem?_eq_some_iff.mp hq1).1
      have b1 := (sum_bd hq i (by omega)).mono (show 1 + 11 * i ≤ 3000 by omega)
      have b2 := (hq q (List.mem_of_getElem? hq1)).mono (show 10 ≤ 3000 by decide)
      refine ⟨[some (shD qs), some (fr (sumR (qs.take i))), some (fr q)], [some (shD qs), some (fr (sumR (qs.take i) + q)), some (fr q)], [], by simp, .inl ?_, rfl, some (fr q), by rw [sum_take hq1]⟩
      simp [s_plus hm (by decide) b1 b2])
  subst e2 e3
  rw [List.length_map, List.take_of_length_le (Nat.le_refl _)] at e1
  have e0 : evS (run fs m) (.asg (.nm 1) (.tup (.cons (.con (.int 0)) (.cons (.con (.int 1)) .nil)))) [some (shD qs), none, none] [] = .nx [some (shD qs), some (fr 0), none] [] := by
    simp [LIM]
    rfl
  unfold b_added
  rw [evSs_cons, e0, next_nx, evSs_cons, e1]
  simp

theorem fr_one : (.tup [.int 1, .int 1] : D) = fr 1 := rfl
theorem zip_const {α : Type} {f : D → D} {l : List α} {g : α → D} (c : D) (h : ∀ x ∈ l, f (g x) = c) : ((l.map g).zipIdx.map fun d => f d.1) = List.replicate l.length c := by
  apply List.ext_getElem?
  intro i
  rw [List.getElem?_map, List.getElem?_zipIdx, List.getElem?_map]
  by_cases hi : i < l.length
  · rw [List.getElem?_eq_getElem hi, List.getElem?_replicate_of_lt hi]
    simp [h _ (List.getElem_mem hi)]
  · rw [List.getElem?_eq_none (by omega), List.getElem?_eq_none (by simpa using hi)]
    rfl
theorem zip_rep {l : List D} {c : D} : (l.zipIdx.map fun _ => c) = List.replicate l.length c := by
  rw [List.map_const', List.length_zipIdx]
theorem bools_rep : ∀ n : Nat, boolsD (List.replicate n (.bl true)) = some (List.replicate n true)
  | 0 => rfl
  | n + 1 => by
    rw [List.replicate_succ, List.replicate_succ]
    show (boolsD (List.replicate n (.bl true))).map (true :: ·) = _
    rw [bools_rep n]
    rfl
theorem all_rep : ∀ n : Nat, (List.replicate n true).all id = true
  | 0 => rfl
  | n + 1 => by rw [List.replicate_succ, List.all_cons, all_rep n]; rfl
theorem s_is_shares_in {qs : List Rat} (h : 5 ≤ n) (S : Shares qs) : run fs n i_is_shares_in [shD qs] M = .ok (.bl true) M := by
  obtain ⟨m, rfl, hm⟩ := lev h
  have h2 := S.l2
  have h8 := S.l8
  have lc := lc_pure (F := run fs m) (e := .and (.call i_is_fraction (.cons (.var 1) .nil)) (.and (.cmp .Gt (.idx (.var 1) (.con (.int 0))) (.con (.int 0))) (.cmp .LtE (.idx (.var 1) (.con (.int 1))) (.con c_MOST_BOUND)))) (t := .nm 1) (it := .val (.var 0)) (own := [1]) (ρ := [some (shD qs), none]) (M := []) (M1 := []) (sr := .tup (qs.map fr)) (ys := qs.map fr) (f := fun _ _ => .bl true)
    (by simp) (fun i h => at_tup h) (by simp [LIM]; omega) (fun i d hd => by
      obtain ⟨q, hq, rfl⟩ := map_get hd
      have hq := List.mem_of_getElem? hq
      have b := (S.bd hq).mono (show 10 ≤ 3000 by decide)
      have p1 := S.pos q hq
      have p2 := S.den q hq
      have e1 : decide (0 < q.num) = true := decide_eq_true p1
      have e2 : decide ((q.den : Int) ≤ 1000) = true := decide_eq_true (by omega)
      refine ⟨[some (shD qs), some (fr q)], by simp [wipeE], ?_⟩
      simp only [evE_and, evE_call, evEs_cons, evE_var, List.getElem?_cons_succ, List.getElem?_cons_zero, getV_some, bind_ok, evEs_nil, s_is_fraction (show 2 ≤ m by omega) b, onBl_t, evE_cmp, evE_idx, evE_con]
      simp only [fr, ix0, ix1, bind_ok, c_gt, e1, onBl_t, c_le, e2])
  refine run_pp (fd := fd_is_shares_in) (G := [.lst (List.replicate qs.length (.bl true))]) rfl ⟨rfl, by show 1 ≤ 2; decide⟩ (by simp [pure_frs]) ?_ rfl
  show (evSs _ b_is_shares_in [some (shD qs), none] []).res = _
  have e1 : decide ((2 : Int) ≤ ((qs.map fr).length : Nat)) = true := decide_eq_true (by rw [List.length_map]; omega)
  have e2 : decide ((((qs.map fr).length : Nat) : Int) ≤ 8) = true := decide_eq_true (by rw [List.length_map]; omega)
  have lc2 : evE (run fs m) (.blt .all (.cons (.lc (.and (.call i_is_fraction (.cons (.var 1) .nil)) (.and (.cmp .Gt (.idx (.var 1) (.con (.int 0))) (.con (.int 0))) (.cmp .LtE (.idx (.var 1) (.con (.int 1))) (.con c_MOST_BOUND)))) (.nm 1) (.val (.var 0)) [1]) .nil)) [some (shD qs), none] [] = .ok (.bl true) [.lst (List.replicate qs.length (.bl true))] := by
    rw [evE_blt, evEs_cons, lc, bind_ok, evEs_nil, bind_ok, bind_ok, zip_rep, List.length_map]
    rw [bl_all_o (xs := List.replicate qs.length (.bl true)) rfl (bools_rep _), all_rep]
    rfl
  have e3 := s_added (n := m) (qs := qs) (M := [.lst (List.replicate qs.length (.bl true))]) (by omega) (fun q hq => S.bd hq) (by omega)
  rw [S.sum] at e3
  unfold b_is_shares_in
  simp only [evSs_cons, evS_ife, evE_or, evE_not, evE_tst, evE_blt (b := .isTuple), evEs_cons, evE_var, List.getElem?_cons_zero, getV_some, bind_ok, evEs_nil, bl_isTup, truth_bl, Option.map_some, ofOpt_some, test_bl, Bool.not_true, onBl_f, evE_chn, evE_con, evE_blt (b := .len), bl_len, c_le, e1, e2, onBl_t, out_ok, Bool.false_eq_true, if_false, evSs_nil, next_nx]
  rw [lc2]
  simp only [bind_ok, truth_bl, Option.map_some, ofOpt_some, test_bl, Bool.not_true, out_ok, Bool.false_eq_true, if_false, evSs_nil, next_nx, evSs_cons, evS_ret, evE_cmp, evE_call, evEs_cons, evE_var, List.getElem?_cons_zero, getV_some, evEs_nil, e3, evE_con]
  rw [show (c_ONE : D) = fr 1 from rfl, eq_fr.1]
  rfl
theorem s_require_shares {qs : List Rat} (h : 6 ≤ n) (S : Shares qs) : run fs n i_require_shares [shD qs] M = .ok .non M := by
  obtain ⟨m, rfl, hm⟩ := lev h
  refine run_pp (fd := fd_require_shares) (G := []) rfl ⟨rfl, Nat.le_refl _⟩ (by simp [pure_frs]) ?_ rfl
  show (evSs _ b_require_shares [some (shD qs)] []).res = _
  simp [b_require_shares, s_is_shares_in hm S]
/-! ### rows -/
abbrev rowD (r : List Nat) : D := .tup (r.map fun x => .int (x : Nat))
theorem pure_row : ∀ r : List Nat, pureL (r.map fun x => D.int (x : Nat)) = true
  | [] => rfl
  | x :: r => by rw [List.map_cons, pure_cons, pure_int, pure_row r]; rfl
structure Row (k : Nat) (r : List Nat) : Prop where
  len : r.length ≤ 60
  lt : ∀ x ∈ r, x < k
theorem s_is_row_in {qs : List Rat} {r : List Nat} (h : 3 ≤ n) (h2 : 2 ≤ qs.length) (R : Row qs.length r) : run fs n i_is_row_in [shD qs, rowD r] M = .ok (.bl true) M := by
  obtain ⟨m, rfl, hm⟩ := lev h
  have hl := R.len
  have lc := lc_pure (F := run fs m) (e := .call i_is_within (.cons (.var 2) (.cons (.con (.int 0)) (.cons (.bin .Sub (.blt .len (.cons (.var 0) .nil)) (.con (.int 1))) .nil)))) (t := .nm 2) (it := .val (.var 1)) (own := [2]) (ρ := [some (shD qs), some (rowD r), none]) (M := []) (M1 := []) (sr := .tup (r.map fun x => .int (x : Nat))) (ys := r.map fun x => .int (x : Nat)) (f := fun _ _ => .bl true)
    (by simp) (fun i h => at_tup h) (by simp [LIM]; omega) (fun i d hd => by
      obtain ⟨x, hx, rfl⟩ := map_get hd
      have hx := R.lt x (List.mem_of_getElem? hx)
      refine ⟨[some (shD qs), some (rowD r), some (.int x)], by simp [wipeE], ?_⟩
      have e := s_is_within (n := m) (M := []) (x := (x : Int)) (lo := 0) (hi := ((qs.map fr).length : Nat) - 1) (by omega) (by omega) (by rw [List.length_map]; omega)
      simp only [evE_call, evEs_cons, evE_var, List.getElem?_cons_succ, List.getElem?_cons_zero, getV_some, bind_ok, evEs_nil, evE_con, evE_bin, evE_blt, bl_len, b_sub, e])
  refine run_pp (fd := fd_is_row_in) (G := [.lst (List.replicate r.length (.bl true))]) rfl ⟨rfl, by show 2 ≤ 3; decide⟩ (by simp [pure_frs, pure_row]) ?_ rfl
  show (evSs _ b_is_row_in [some (shD qs), some (rowD r), none] []).res = _
  have lc2 : evE (run fs m) (.blt .all (.cons (.lc (.call i_is_within (.cons (.var 2) (.cons (.con (.int 0)) (.cons (.bin .Sub (.blt .len (.cons (.var 0) .nil)) (.con (.int 1))) .nil)))) (.nm 2) (.val (.var 1)) [2]) .nil)) [some (shD qs), some (rowD r), none] [] = .ok (.bl true) [.lst (List.replicate r.length (.bl true))] := by
    rw [evE_blt, evEs_cons, lc, bind_ok, evEs_nil, bind_ok, bind_ok, zip_rep, List.length_map]
    rw [bl_all_o (xs := List.replicate r.length (.bl true)) rfl (bools_rep _), all_rep]
    rfl
  have e1 : decide ((60 : Int) < ((r.map fun x => D.int (x : Nat)).length : Nat)) = false := decide_eq_false (by rw [List.length_map]; omega)
  unfold b_is_row_in
  simp only [evSs_cons, evS_ife, evE_or, evE_not, evE_tst, evE_blt (b := .isTuple), evEs_cons, evE_var, List.getElem?_cons_zero, List.getElem?_cons_succ, getV_some, bind_ok, evEs_nil, bl_isTup, truth_bl, Option.map_some, ofOpt_some, test_bl, Bool.not_true, onBl_f, evE_cmp, evE_con, evE_blt (b := .len), bl_len, c_gt, e1, out_ok, Bool.false_eq_true, if_false, evSs_nil, next_nx, evS_ret]
  rw [lc2]
  rfl
theorem s_require {qs : List Rat} {r : List Nat} (h : 7 ≤ n) (S : Shares qs) (R : Row qs.length r) : run fs n i_require_spread_row [shD qs, rowD r] M = .ok .non M := by
  obtain ⟨m, rfl, hm⟩ := lev h
  refine run_pp (fd := fd_require_spread_row) (G := []) rfl ⟨rfl, Nat.le_refl _⟩ (by simp [pure_frs, pure_row]) ?_ rfl
  show (evSs _ b_require_spread_row [some (shD qs), some (rowD r)] []).res = _
  simp [b_require_spread_row, s_require_shares (n := m) (by omega) S, s_is_row_in (n := m) (by omega) S.l2 R]
end
end K58
end
section
set_option Elab.async false
set_option linter.all false
set_option maxRecDepth 100000
set_option maxHeartbeats 1000000
set_option exponentiation.threshold 20000
/-! K58q: counts, offs, the greatest off. -/
namespace K58
open PySem Mi
section
variable {n : Nat} {M : Mem} {p q : Rat}
/-! ### items written -/
theorem set_nat {a j : Nat} {xs : List D} {v : D} (ha : M[a]? = some (.lst xs)) (hj : j < xs.length) : setD (.obj a) (.int (j : Nat)) v M = some (M.set a (.lst (xs.set j v))) := by
  have e : place xs.length (j : Int) = some j := by
    unfold place
    rw [if_pos (by omega), if_pos (by omega)]
    rfl
  show (match M[a]? with
    | some (.lst xs) => match place xs.length (j : Int) with
      | some j => some (M.set a (.lst (xs.set j v)))
      | none => none
    | _ => none) = _
  rw [ha]
  show (match place xs.length (j : Int) with
      | some j => some (M.set a (.lst (xs.set j v)))
      | none => none) = _
  rw [e]
theorem aug_at {F : Fns} {ρ : Mi.Env} {a j : Nat} {xs : List D} {c d : Int} {o i e : E} (ha : M[a]? = some (.lst xs)) (hj : xs[j]? = some (.int c)) (ho : evE F o ρ M = .ok (.obj a) M) (hi : evE F i ρ M = .ok (.int (j : Nat)) M) (he : evE F e ρ M = .ok (.int d) M) :
    evS F (.augS o i .Add e) ρ M = .nx ρ (M.set a (.lst (xs.set j (.int (c + d))))) := by
  have e1 : idxO (.obj a) (.int (j : Nat)) M = some (.int c) := by
    show ((items (.obj a) M).bind fun xs => item xs (j : Int)) = some (.int c)
    rw [show items (.obj a) M = some xs from lst_o ha]
    exact item_nat hj
  show (evE F o ρ M).out ρ (fun x M => (evE F i ρ M).out ρ fun k M => match idxO x k M with
    | some (.int a) => (evE F e ρ M).out ρ fun y M => match y with
      | .int b => match setD x k (.int (a + b)) M with
        | some M => .nx ρ M
        | none => .bad
      | _ => .bad
    | _ => .bad) = _
  rw [ho, out_ok, hi, out_ok, e1]
  show (evE F e ρ M).out ρ (fun y M => match y with
      | .int b => match setD (.obj a) (.int (j : Nat)) (.int (c + b)) M with
        | some M => Out.nx ρ M
        | none => .bad
      | _ => .bad) = _
  rw [he, out_ok]
  show (match setD (.obj a) (.int (j : Nat)) (.int (c + d)) M with
        | some M => Out.nx ρ M
        | none => .bad) = _
  rw [set_nat ha (List.getElem?_eq_some_iff.mp hj).1]
theorem rep_list {a k : Nat} {c : D} (ha : M[a]? = some (.lst [c])) (hk : k ≤ 1000) : binop .Mult (.obj a) (.int (k : Nat)) M = .ok (.obj M.length) (M ++ [.lst (List.replicate k c)]) := by
  have hl : LIM = 16777216 := rfl
  have e : (List.replicate (k : Int).toNat [c]).flatten = List.replicate k c := by simp
  unfold binop
  simp only [ha]
  rw [if_pos ⟨trivial, by omega, by omega, by simp; omega⟩, e]
  rfl
/-! ### counts -/
def cntL (k : Nat) (r : List Nat) : List D := (List.range k).map fun i => .int (r.count i : Nat)
theorem cnt_len {k : Nat} {r : List Nat} : (cntL k r).length = k := by simp [cntL]
theorem cnt_at {k i : Nat} {r : List Nat} (h : i < k) : (cntL k r)[i]? = some (.int (r.count i : Nat)) := by
  unfold cntL
  rw [List.getElem?_map, List.getElem?_range h]
  rfl
theorem cnt_nil {k : Nat} : cntL k [] = List.replicate k (.int 0) := by
  unfold cntL
  show ((List.range k).map fun _ => D.int ((0 : Nat) : Int)) = _
  rw [List.map_const', List.length_range]
  rfl
theorem pure_cnt {k : Nat} {r : List Nat} : pureL (cntL k r) = true := by
  have : ∀ l : List Nat, pureL (l.map fun i => D.int (r.count i : Nat)) = true := fun l => by
    induction l with
    | nil => rfl
    | cons a l ih => simp [ih]
  exact this _
theorem cnt_step {k i x : Nat} {r : List Nat} (hx : r[i]? = some x) (hk : x < k) : (cntL k (r.take i)).set x (.int (((r.take i).count x : Nat) + 1)) = cntL k (r.take (i + 1)) := by
  have e : r.take (i + 1) = r.take i ++ [x] := by rw [List.take_add_one, hx]; rfl
  apply List.ext_getElem?
  intro j
  rw [e]
  by_cases hj : j < k
  · rw [cnt_at hj, List.count_append]
    by_cases hxj : x = j
    · subst hxj
      rw [List.getElem?_set_self (by rw [cnt_len]; exact hk)]
      simp
    · rw [List.getElem?_set_ne hxj, cnt_at hj]
      simp [List.count_singleton, hxj]
  · rw [List.getElem?_eq_none (by rw [List.length_set, cnt_len]; omega), List.getElem?_eq_none (by rw [cnt_len]; omega)]
theorem s_counts_in {qs : List Rat} {r : List Nat} (h : 1 ≤ n) (h8 : qs.length ≤ 8) (R : Row qs.length r) : run fs n i_counts_in [shD qs, rowD r] M = .ok (.obj M.length) (M ++ [.lst (cntL qs.length r)]) := by
  obtain ⟨m, rfl, hm⟩ := lev h
  have hl := R.len
  obtain ⟨ρ', M', e1, ⟨o, e2⟩, e3⟩ := fr_rule (F := run fs m) (t := .nm 3) (it := .val (.var 1)) (b := .cons (.augS (.var 2) (.var 3) .Add (.con (.int 1))) .nil) (ρ := [some (shD qs), some (rowD r), some (.obj 1), none]) (M := [.lst [.int 0], .lst (cntL qs.length [])]) (M1 := [.lst [.int 0], .lst (cntL qs.length [])]) (sr := .tup (r.map fun x => .int (x : Nat))) (ys := r.map fun x => .int (x : Nat))
    (fun i ρ M => (∃ o, ρ = [some (shD qs), some (rowD r), some (.obj 1), o]) ∧ M = [.lst [.int 0], .lst (cntL qs.length (r.take i))]) (by simp) (fun i ρ M hM h => at_tup h) (by simp [LIM]; omega) ⟨⟨none, rfl⟩, rfl⟩ (fun i d ρ M hd ⟨⟨o, hρ⟩, hM⟩ => by
      subst hM hρ
      obtain ⟨x, hx, rfl⟩ := map_get hd
      have hk := R.lt x (List.mem_of_getElem? hx)
      refine ⟨[some (shD qs), some (rowD r), some (.obj 1), some (.int x)], _, _, by simp, .inl ?_, ⟨some (.int x), rfl⟩, rfl⟩
      rw [evSs_cons, aug_at (a := 1) (j := x) (xs := cntL qs.length (r.take i)) (c := ((r.take i).count x : Nat)) (d := 1) rfl (cnt_at hk) rfl rfl rfl]
      rw [← cnt_step hx hk]
      simp)
  rw [List.length_map, List.take_of_length_le (Nat.le_refl _)] at e3
  subst e2 e3
  refine run_pl (fd := fd_counts_in) (j := 1) (ys := cntL qs.length r) (G := [.lst [.int 0], .lst (cntL qs.length r)]) rfl ⟨rfl, by show 2 ≤ 4; decide⟩ (by simp [pure_frs, pure_row]) ?_ rfl pure_cnt
  show (evSs _ b_counts_in [some (shD qs), some (rowD r), none, none] []).res = _
  have e0 : evS (run fs m) (.asg (.nm 2) (.bin .Mult (.lst (.cons (.con (.int 0)) .nil)) (.blt .len (.cons (.var 0) .nil)))) [some (shD qs), some (rowD r), none, none] [] = .nx [some (shD qs), some (rowD r), some (.obj 1), none] [.lst [.int 0], .lst (cntL qs.length [])] := by
    have e4 := rep_list (M := [.lst [.int 0]]) (a := 0) (c := .int 0) (k := qs.length) rfl (by omega)
    have e5 : evE (run fs m) (.lst (.cons (.con (.int 0)) .nil)) [some (shD qs), some (rowD r), none, none] [] = .ok (.obj 0) [.lst [.int 0]] := by simp [LIM, Mi.alloc]
    rw [cnt_nil, evS_asg, evE_bin, e5]
    simp only [evE_blt, evEs_cons, evE_var, List.getElem?_cons_zero, getV_some, bind_ok, evEs_nil, bl_len, List.length_map, e4, out_ok]
    simp
  unfold b_counts_in
  rw [evSs_cons, e0, next_nx, evSs_cons, e1]
  simp
theorem sum_zero : ∀ l : List Nat, (l.map fun _ => (0 : Int)).sum = 0
  | [] => rfl
  | x :: l => by rw [List.map_cons, List.sum_cons, sum_zero l]; rfl
theorem sum_ind : ∀ (k x : Nat), x < k → (((List.range k).map fun i => if x = i then (1 : Int) else 0).sum) = 1 := fun k x h => by
  induction k with
  | zero => omega
  | succ k ih =>
    rw [List.range_succ, List.map_append, List.sum_append]
    by_cases hx : x = k
    · subst hx
      have : ((List.range x).map fun i => if x = i then (1 : Int) else 0) = (List.range x).map fun _ => 0 := by
        apply List.map_congr_left
        intro i hi
        have := List.mem_range.mp hi
        rw [if_neg (by omega)]
      rw [this, sum_zero]
      simp
    · rw [ih (by omega)]
      simp [hx]
theorem sum_map_add (f g : Nat → Int) : ∀ l : List Nat, (l.map fun i => f i + g i).sum = (l.map f).sum + (l.map g).sum
  | [] => rfl
  | x :: l => by
    rw [List.map_cons, List.map_cons, List.map_cons, List.sum_cons, List.sum_cons, List.sum_cons, sum_map_add f g l]
    omega
theorem sum_cnt {k : Nat} : ∀ {r : List Nat}, (∀ x ∈ r, x < k) → ((List.range k).map fun i => (r.count i : Int)).sum = r.length
  | [], _ => sum_zero _
  | x :: r, h => by
    have e : ((List.range k).map fun i => ((x :: r).count i : Int)) = (List.range k).map fun i => (r.count i : Int) + if x = i then (1 : Int) else 0 := by
      apply List.map_congr_left
      intro i _
      rw [List.count_cons]
      by_cases hx : x = i
      · simp [hx]
      · simp [hx]
    rw [e, sum_map_add, sum_cnt (fun y hy => h y (List.mem_cons_of_mem _ hy)), sum_ind k x (h x List.mem_cons_self)]
    simp
theorem ints_cnt {k : Nat} {r : List Nat} : intsD (cntL k r) = some ((List.range k).map fun i => (r.count i : Int)) := by
  have : ∀ l : List Nat, intsD (l.map fun i => D.int (r.count i : Nat)) = some (l.map fun i => (r.count i : Int)) := fun l => by
    induction l with
    | nil => rfl
    | cons a l ih =>
      rw [List.map_cons, List.map_cons]
      show (intsD (l.map fun i => D.int (r.count i : Nat))).map ((r.count a : Int) :: ·) = _
      rw [ih]
      rfl
  exact this _
/-! ### offs -/
def offA (q : Rat) (c k : Nat) : Rat := ((c : Int) : Rat) - ((k : Int) : Rat) * q
def offs (qs : List Rat) (r : List Nat) : List Rat := qs.zipIdx.map fun d => offA d.1 (r.count d.2) r.length
theorem fr_nat (k : Nat) : (.tup [.int (k : Nat), .int 1] : D) = fr ((k : Int) : Rat) := rfl
theorem nat_bd {k : Nat} (h : k ≤ 1000) : Bd 10 ((k : Int) : Rat) := ⟨by rw [Rat.num_intCast]; omega, by rw [Rat.den_intCast]; decide⟩
theorem offA_bd {c k : Nat} (hq : Bd 10 q) (hc : c ≤ 1000) (hk : k ≤ 1000) : Bd 31 (offA q c k) := (sub_bd2 (nat_bd hc) (mul_bd2 (nat_bd hk) hq)).mono (by decide)
theorem pure_offs {qs : List Rat} {r : List Nat} : pureL ((offs qs r).map fr) = true := pure_frs _
theorem s_offs_in {qs : List Rat} {r : List Nat} {a : Nat} (h : 4 ≤ n) (S : Shares qs) (R : Row qs.length r) (ha : M[a]? = some (.lst (cntL qs.length r))) : run fs n i_offs_in [shD qs, .obj a] M = .ok (.obj M.length) (M ++ [.lst ((offs qs r).map fr)]) := by
  obtain ⟨m, rfl, hm⟩ := lev h
  have hl := R.len
  have h8 := S.l8
  have hz : (cntL qs.length r).length = (qs.map fr).length := by rw [cnt_len, List.length_map]
  have lc := lc_pure (F := run fs m) (e := .call i_minus (.cons (.tup (.cons (.var 3) (.cons (.con (.int 1)) .nil))) (.cons (.call i_times (.cons (.tup (.cons (.var 2) (.cons (.con (.int 1)) .nil))) (.cons (.var 4) .nil))) .nil))) (t := .tup [.nm 3, .nm 4]) (it := .zip (.var 1) (.var 0)) (own := [3, 4]) (ρ := [some (shD qs), some (.obj 0), some (.int (r.length : Nat)), none, none]) (M := [.lst (cntL qs.length r)]) (M1 := [.lst (cntL qs.length r)]) (sr := .zip (.lst 0) (.tup (qs.map fr))) (ys := ziL (cntL qs.length r) (qs.map fr)) (f := fun i d => match qs[i]? with | some q => fr (offA q (r.count i) r.length) | none => d)
    (by simp only [evI_zip, evE_var, List.getElem?_cons_succ, List.getElem?_cons_zero, getV_some, bind_ok, srOf_tup, srOf_obj (M := [.lst (cntL qs.length r)]) (a := 0) rfl, zipO_some])
    (fun i hi => by
      rw [ziL_len hz, cnt_len] at hi
      exact at_zi hz (at_lst rfl (by rw [cnt_len]; exact hi)) (at_tup (by rw [List.length_map]; exact hi)))
    (by rw [ziL_len hz, cnt_len]; have : LIM = 16777216 := rfl; omega) (fun i d hd => by
      obtain ⟨x, y, h1, h2, rfl⟩ := ziL_get hz hd
      obtain ⟨q, hq, rfl⟩ := map_get h2
      have hi := (List.getElem?_eq_some_iff.mp hq).1
      rw [cnt_at hi] at h1
      cases h1
      have bq := S.bd (List.mem_of_getElem? hq)
      have hc : r.count i ≤ 1000 := Nat.le_trans List.count_le_length (by omega)
      refine ⟨[some (shD qs), some (.obj 0), some (.int (r.length : Nat)), some (.int (r.count i : Nat)), some (fr q)], by simp [wipeE], ?_⟩
      have e1 := s_times (M := [.lst (cntL qs.length r)]) (n := m) hm (show 20 ≤ 3000 by decide) ((nat_bd (k := r.length) (by omega)).mono (show 10 ≤ 20 by decide)) (bq.mono (show 10 ≤ 20 by decide))
      have e2 := s_minus (M := [.lst (cntL qs.length r)]) (n := m) hm (show 20 ≤ 3000 by decide) ((nat_bd (k := r.count i) hc).mono (show 10 ≤ 20 by decide)) (mul_bd2 (nat_bd (k := r.length) (by omega)) bq)
      rw [← fr_nat] at e1 e2
      simp only [evE_call, evEs_cons, evE_tup, evE_var, List.getElem?_cons_succ, List.getElem?_cons_zero, getV_some, bind_ok, evEs_nil, evE_con, List.length_cons, List.length_nil]
      rw [if_pos (by decide), bind_ok, if_pos (by decide)]
      simp only [bind_ok, e1, e2, hq]
      rfl)
  have ef : ((ziL (cntL qs.length r) (qs.map fr)).zipIdx.map fun d => (match qs[d.2]? with | some q => fr (offA q (r.count d.2) r.length) | none => d.1)) = (offs qs r).map fr := by
    apply List.ext_getElem?
    intro i
    unfold offs
    rw [List.map_map, List.getElem?_map, List.getElem?_map, List.getElem?_zipIdx, List.getElem?_zipIdx]
    by_cases hi : i < qs.length
    · have h3 : i < (ziL (cntL qs.length r) (qs.map fr)).length := by rw [ziL_len hz, cnt_len]; exact hi
      rw [List.getElem?_eq_getElem h3, List.getElem?_eq_getElem hi]
      simp [hi]
    · rw [List.getElem?_eq_none (by rw [ziL_len hz, cnt_len]; omega), List.getElem?_eq_none (by omega)]
      rfl
  rw [ef] at lc
  have e0 := run_pol (k := m) (fd := fd_offs_in) (M := M) (p := shD qs) (j := 1) (ys := (offs qs r).map fr) (xs := cntL qs.length r) (xs' := cntL qs.length r) (G := [.lst (cntL qs.length r), .lst ((offs qs r).map fr)]) (i := i_offs_in) (fs := fs) rfl ha pure_cnt (by simp [pure_frs]) ⟨rfl, by show 2 ≤ 5; decide⟩ (by
    show (evSs _ b_offs_in [some (shD qs), some (.obj 0), none, none, none] [.lst (cntL qs.length r)]).res = _
    have e5 := bl_sum_o (M := [.lst (cntL qs.length r)]) (a := 0) rfl (ints_cnt (k := qs.length) (r := r))
    rw [sum_cnt R.lt] at e5
    unfold b_offs_in
    simp only [evSs_cons, evS_asg, evE_blt, evEs_cons, evE_var, List.getElem?_cons_succ, List.getElem?_cons_zero, getV_some, bind_ok, evEs_nil, e5, out_ok, bindT_nm, List.length_cons, List.length_nil, isPr_int, and_true, List.set_cons_succ, List.set_cons_zero]
    rw [if_pos (by decide), bindO_some, next_nx, evS_ret, lc]
    rfl) (Nat.le_refl _) rfl pure_offs rfl pure_cnt
  rw [e0, set_self ha]
end
end K58
end
section
set_option Elab.async false
set_option linter.all false
set_option maxRecDepth 100000
set_option maxHeartbeats 1000000
set_option exponentiation.threshold 20000
/-! K58r: the greatest off. -/
namespace K58
open PySem Mi
section
variable {n : Nat} {M : Mem} {p q : Rat}
def absR (q : Rat) : Rat := if q.num < 0 then -q else q
theorem absR_fr : (.tup [.int (if q.num < 0 then -q.num else q.num), .int (q.den : Int)] : D) = fr (absR q) := by
  unfold absR
  split <;> rfl
theorem absR_bd {b : Nat} (h : Bd b q) : Bd b (absR q) := by
  unfold absR
  split
  · exact neg_bd h
  · exact h
def up (b q : Rat) : Rat := if b < absR q then absR q else b
def mx (b : Rat) (ps : List Rat) : Rat := ps.foldl up b
theorem mx_take {b : Rat} {ps : List Rat} {j : Nat} (h : ps[j]? = some q) : mx b (ps.take (j + 1)) = up (mx b (ps.take j)) q := by
  unfold mx
  rw [List.take_add_one, h, List.foldl_append]
  rfl
theorem up_bd {b : Rat} {c : Nat} (hb : Bd c b) (h : Bd c q) : Bd c (up b q) := by
  unfold up
  split
  · exact absR_bd h
  · exact hb
theorem mx_bd {c : Nat} : ∀ {ps : List Rat} {b : Rat}, Bd c b → (∀ q ∈ ps, Bd c q) → Bd c (mx b ps)
  | [], _, hb, _ => hb
  | q :: ps, b, hb, h => mx_bd (ps := ps) (up_bd hb (h q List.mem_cons_self)) fun x hx => h x (List.mem_cons_of_mem _ hx)
theorem offs_len {qs : List Rat} {r : List Nat} : (offs qs r).length = qs.length := by simp [offs]
theorem offs_at {qs : List Rat} {r : List Nat} {i : Nat} (h : qs[i]? = some q) : (offs qs r)[i]? = some (offA q (r.count i) r.length) := by
  unfold offs
  rw [List.getElem?_map, List.getElem?_zipIdx, h]
  simp
theorem offs_mem {qs : List Rat} {r : List Nat} (h : p ∈ offs qs r) : ∃ i q, qs[i]? = some q ∧ p = offA q (r.count i) r.length := by
  obtain ⟨i, hi, e⟩ := List.getElem_of_mem h
  rw [offs_len] at hi
  have := offs_at (r := r) (List.getElem?_eq_getElem hi)
  rw [List.getElem?_eq_getElem (by rw [offs_len]; exact hi), e] at this
  exact ⟨i, _, List.getElem?_eq_getElem hi, Option.some.inj this⟩
theorem offs_bd {qs : List Rat} {r : List Nat} (S : Shares qs) (hl : r.length ≤ 60) : ∀ p ∈ offs qs r, Bd 31 p := fun p hp => by
  obtain ⟨i, q, h1, rfl⟩ := offs_mem hp
  exact offA_bd (S.bd (List.mem_of_getElem? h1)) (Nat.le_trans List.count_le_length (by omega)) (by omega)
/-- the greatest off behind the first i -/
def bst (qs : List Rat) (r : List Nat) : Nat → Rat
  | 0 => 0
  | i + 1 => mx (bst qs r i) (offs qs (r.take (i + 1)))
theorem zero_bd {b : Nat} (h : 1 ≤ b) : Bd b 0 := ⟨by show (0 : Int).natAbs < _; exact Nat.two_pow_pos b, by show 1 < _; exact Nat.one_lt_two_pow (by omega)⟩
theorem bst_bd {qs : List Rat} {r : List Nat} (S : Shares qs) (hl : r.length ≤ 60) : ∀ i, Bd 31 (bst qs r i)
  | 0 => zero_bd (by decide)
  | i + 1 => mx_bd (bst_bd S hl i) (offs_bd S (by rw [List.length_take]; omega))
theorem Row.take {k : Nat} {r : List Nat} (R : Row k r) (i : Nat) : Row k (r.take i) := ⟨by rw [List.length_take]; have := R.len; omega, fun x hx => R.lt x (List.mem_of_mem_take hx)⟩
/-- a turn: a fraction's absolute value against the best -/
theorem less_abs {F : Fns} {ρ : Mi.Env} {i jb jt jd : Nat} {b : Rat} (hF : F i [fr b, fr (absR q)] M = .ok (.bl (decide (b < absR q))) M) (h1 : ρ[jb]? = some (some (fr b))) (h2 : ρ[jt]? = some (some (.int q.num))) (h3 : ρ[jd]? = some (some (.int (q.den : Int)))) :
    evE F (.call i (.cons (.var jb) (.cons (.tup (.cons (.blt .abs (.cons (.var jt) .nil)) (.cons (.var jd) .nil))) .nil))) ρ M = .ok (.bl (decide (b < absR q))) M ∧ evE F (.tup (.cons (.blt .abs (.cons (.var jt) .nil)) (.cons (.var jd) .nil))) ρ M = .ok (fr (absR q)) M := by
  have e : evE F (.tup (.cons (.blt .abs (.cons (.var jt) .nil)) (.cons (.var jd) .nil))) ρ M = .ok (fr (absR q)) M := by
    simp only [evE_tup, evEs_cons, evE_blt, evE_var, h2, h3, getV_some, bind_ok, evEs_nil, bl_abs, absR_fr, List.length_cons, List.length_nil]
    rw [if_pos (by decide)]
  refine ⟨?_, e⟩
  rw [evE_call, evEs_cons, evE_var, h1, getV_some, bind_ok, evEs_cons, e, bind_ok, evEs_nil, bind_ok, bind_ok, bind_ok, hF]
theorem s_row_off_in {qs : List Rat} {r : List Nat} (h : 5 ≤ n) (S : Shares qs) (R : Row qs.length r) : run fs n i_row_off_in [shD qs, rowD r] M = .ok (fr (bst qs r r.length)) M := by
  obtain ⟨m, rfl, hm⟩ := lev h
  have hl := R.len
  have h8 := S.l8
  obtain ⟨ρ', M', e1, G, o, t, b, e2, e3⟩ := fr_rule (F := run fs m) (t := .nm 4) (it := .val (.var 1)) (b := .cons (.augS (.var 3) (.var 4) .Add (.con (.int 1))) (.cons (.fr (.tup [.nm 5, .nm 6]) (.val (.call i_offs_in (.cons (.var 0) (.cons (.var 3) .nil)))) (.cons (.ife (.tst (.call i_is_less (.cons (.var 2) (.cons (.tup (.cons (.blt .abs (.cons (.var 5) .nil)) (.cons (.var 6) .nil))) .nil)))) (.cons (.asg (.nm 2) (.tup (.cons (.blt .abs (.cons (.var 5) .nil)) (.cons (.var 6) .nil)))) .nil) .nil) .nil)) .nil)) (ρ := [some (shD qs), some (rowD r), some (fr 0), some (.obj 1), none, none, none]) (M := [.lst [.int 0], .lst (cntL qs.length [])]) (M1 := [.lst [.int 0], .lst (cntL qs.length [])]) (sr := .tup (r.map fun x => .int (x : Nat))) (ys := r.map fun x => .int (x : Nat))
    (fun i ρ M => ∃ G o t b, ρ = [some (shD qs), some (rowD r), some (fr (bst qs r i)), some (.obj 1), o, t, b] ∧ M = [.lst [.int 0], .lst (cntL qs.length (r.take i))] ++ G) (by simp) (fun i ρ M hM h => at_tup h) (by simp [LIM]; omega) ⟨[], none, none, none, rfl, rfl⟩ (fun i d ρ M hd ⟨G, o, t, b, hρ, hM⟩ => by
      obtain ⟨x, hx, rfl⟩ := map_get hd
      have hk := R.lt x (List.mem_of_getElem? hx)
      have hi := (List.getElem?_eq_some_iff.mp hx).1
      have a1 : evS (run fs m) (.augS (.var 3) (.var 4) .Add (.con (.int 1))) [some (shD qs), some (rowD r), some (fr (bst qs r i)), some (.obj 1), some (.int x), t, b] M = .nx [some (shD qs), some (rowD r), some (fr (bst qs r i)), some (.obj 1), some (.int x), t, b] ([.lst [.int 0], .lst (cntL qs.length (r.take (i + 1)))] ++ G) := by
        subst hM
        rw [aug_at (a := 1) (j := x) (xs := cntL qs.length (r.take i)) (c := ((r.take i).count x : Nat)) (d := 1) rfl (cnt_at hk) rfl rfl rfl, ← cnt_step hx hk]
        rfl
      generalize hM1 : ([.lst [.int 0], .lst (cntL qs.length (r.take (i + 1)))] ++ G : Mem) = M1 at a1
      have g1 : M1[1]? = some (.lst (cntL qs.length (r.take (i + 1)))) := by rw [← hM1]; rfl
      have a2 := s_offs_in (n := m) (M := M1) (a := 1) hm S (R.take (i + 1)) g1
      have g2 : (M1 ++ [.lst ((offs qs (r.take (i + 1))).map fr)])[M1.length]? = some (.lst ((offs qs (r.take (i + 1))).map fr)) := by simp
      have ht : (r.take (i + 1)).length ≤ 60 := by rw [List.length_take]; omega
      obtain ⟨ρ2, M2, b1, b2, t2, d2, b3⟩ := fr_rule (F := run fs m) (t := .tup [.nm 5, .nm 6]) (it := .val (.call i_offs_in (.cons (.var 0) (.cons (.var 3) .nil)))) (b := (.cons (.ife (.tst (.call i_is_less (.cons (.var 2) (.cons (.tup (.cons (.blt .abs (.cons (.var 5) .nil)) (.cons (.var 6) .nil))) .nil)))) (.cons (.asg (.nm 2) (.tup (.cons (.blt .abs (.cons (.var 5) .nil)) (.cons (.var 6) .nil)))) .nil) .nil) .nil)) (ρ := [some (shD qs), some (rowD r), some (fr (bst qs r i)), some (.obj 1), some (.int x), t, b]) (M := M1) (M1 := M1 ++ [.lst ((offs qs (r.take (i + 1))).map fr)]) (sr := .lst M1.length) (ys := (offs qs (r.take (i + 1))).map fr)
        (fun j ρ M => M = M1 ++ [.lst ((offs qs (r.take (i + 1))).map fr)] ∧ ∃ t b, ρ = [some (shD qs), some (rowD r), some (fr (mx (bst qs r i) ((offs qs (r.take (i + 1))).take j))), some (.obj 1), some (.int x), t, b])
        (by simp only [evI_val, evE_call, evEs_cons, evE_var, List.getElem?_cons_succ, List.getElem?_cons_zero, getV_some, bind_ok, evEs_nil, a2, srOf_obj g2, ofOpt_some])
        (fun j ρ M ⟨hM, _⟩ h => by rw [hM]; exact at_lst g2 h) (by rw [List.length_map, offs_len]; have : LIM = 16777216 := rfl; omega) ⟨rfl, t, b, rfl⟩ (fun j d ρ M hd ⟨hM, t, b, hρ⟩ => by
          subst hM hρ
          obtain ⟨q, hq, rfl⟩ := map_get hd
          have hb := mx_bd (c := 31) (ps := (offs qs (r.take (i + 1))).take j) (bst_bd S hl i) fun q hq => offs_bd S ht q (List.mem_of_mem_take hq)
          have hqb := absR_bd (offs_bd S ht q (List.mem_of_getElem? hq))
          obtain ⟨c1, c2⟩ := less_abs (F := run fs m) (M := M1 ++ [.lst ((offs qs (r.take (i + 1))).map fr)]) (i := i_is_less) (jb := 2) (jt := 5) (jd := 6) (q := q) (b := mx (bst qs r i) ((offs qs (r.take (i + 1))).take j)) (ρ := [some (shD qs), some (rowD r), some (fr (mx (bst qs r i) ((offs qs (r.take (i + 1))).take j))), some (.obj 1), some (.int x), some (.int q.num), some (.int (q.den : Int))]) (s_less (by omega) (by decide) hb hqb) rfl rfl rfl
          refine ⟨[some (shD qs), some (rowD r), some (fr (mx (bst qs r i) ((offs qs (r.take (i + 1))).take j))), some (.obj 1), some (.int x), some (.int q.num), some (.int (q.den : Int))], _, _, by simp [fr], .inl ?_, rfl, some (.int q.num), some (.int (q.den : Int)), by rw [mx_take hq]⟩
          rw [evSs_cons, evS_ife, evE_tst, c1]
          simp only [bind_ok, truth_bl, Option.map_some, ofOpt_some, test_bl, out_ok]
          unfold up
          by_cases hlt : mx (bst qs r i) ((offs qs (r.take (i + 1))).take j) < absR q
          · rw [if_pos hlt, if_pos (decide_eq_true hlt), evSs_cons, evS_asg, c2, out_ok]
            simp
          · rw [if_neg hlt, if_neg (by simpa using hlt)]
            simp)
      subst b2 b3
      rw [List.length_map, List.take_of_length_le (Nat.le_refl _)] at b1
      refine ⟨[some (shD qs), some (rowD r), some (fr (bst qs r i)), some (.obj 1), some (.int x), t, b], _, M1 ++ [.lst ((offs qs (r.take (i + 1))).map fr)], by rw [hρ]; simp, .inl ?_, G ++ [.lst ((offs qs (r.take (i + 1))).map fr)], some (.int x), t2, d2, rfl, by rw [← hM1, List.append_assoc]⟩
      rw [evSs_cons, a1, next_nx, evSs_cons, b1]
      rfl)
  rw [List.length_map] at e2
  subst e2
  refine run_pp (fd := fd_row_off_in) (G := M') rfl ⟨rfl, by show 2 ≤ 7; decide⟩ (by simp [pure_frs, pure_row]) ?_ rfl
  show (evSs _ b_row_off_in [some (shD qs), some (rowD r), none, none, none, none, none] []).res = _
  have e0 : evS (run fs m) (.par 2 3 (.con c_ZERO) (.bin .Mult (.lst (.cons (.con (.int 0)) .nil)) (.blt .len (.cons (.var 0) .nil)))) [some (shD qs), some (rowD r), none, none, none, none, none] [] = .nx [some (shD qs), some (rowD r), some (fr 0), some (.obj 1), none, none, none] [.lst [.int 0], .lst (cntL qs.length [])] := by
    have e4 := rep_list (M := [.lst [.int 0]]) (a := 0) (c := .int 0) (k := qs.length) rfl (by omega)
    have e5 : evE (run fs m) (.lst (.cons (.con (.int 0)) .nil)) [some (shD qs), some (rowD r), none, none, none, none, none] [] = .ok (.obj 0) [.lst [.int 0]] := by simp [LIM, Mi.alloc]
    rw [cnt_nil, evS_par, evE_con, out_ok, evE_bin, e5]
    simp only [evE_blt, evEs_cons, evE_var, List.getElem?_cons_zero, getV_some, bind_ok, evEs_nil, bl_len, List.length_map, e4, out_ok]
    simp
    rfl
  unfold b_row_off_in
  rw [evSs_cons, e0, next_nx, evSs_cons, e1]
  simp
end
end K58
end
section
set_option Elab.async false
set_option linter.all false
set_option maxRecDepth 100000
set_option maxHeartbeats 1000000
set_option exponentiation.threshold 20000
/-! K58s: the program's own answers. -/
namespace K58
open PySem Mi
section
variable {n : Nat} {M : Mem} {p q : Rat} {qs : List Rat} {r : List Nat}
def bnd (k : Nat) : Rat := Rat.divInt (2 * (k : Int) - 3) (2 * (k : Int) - 2)
theorem bnd_bd {k : Nat} (h2 : 2 ≤ k) (h8 : k ≤ 8) : Bd 10 (bnd k) := divInt_bd (by omega) (by omega) (by omega)
theorem small {x : Int} (h : x.natAbs < 2 ^ 100) : x.natAbs < NUM := bits_num h (by decide)
theorem s_bound_in (h : 3 ≤ n) (S : Shares qs) : run fs n i_bound_in [shD qs] M = .ok (fr (bnd qs.length)) M := by
  obtain ⟨m, rfl, hm⟩ := lev h
  have h2 := S.l2
  have h8 := S.l8
  refine run_pp (fd := fd_bound_in) (G := []) rfl ⟨rfl, by show 1 ≤ 2; decide⟩ (by simp [pure_frs]) ?_ rfl
  show (evSs _ b_bound_in [some (shD qs), none] []).res = _
  have e1 := b_mul (p := 2) (q := (qs.length : Nat)) (M := []) (small (by decide)) (small (by omega))
  have e2 := hF hm (2 * (qs.length : Int) - 2 - 1) (2 * (qs.length : Int) - 2) [] (by omega) (small (by omega)) (small (by omega))
  have e3 : Rat.divInt (2 * (qs.length : Int) - 2 - 1) (2 * (qs.length : Int) - 2) = bnd qs.length := by unfold bnd; congr 1; omega
  rw [e3] at e2
  unfold b_bound_in
  simp [e1, e2]
theorem cut_take {xs : List D} {k : Nat} : cut xs none (some (k : Int)) = xs.take k := by
  have e1 : bound xs.length 0 none = 0 := rfl
  have e2 : bound xs.length xs.length (some (k : Int)) = min k xs.length := by
    show (if (0 : Int) ≤ k then min (k : Int).toNat xs.length else ((k : Int) + xs.length).toNat) = _
    rw [if_pos (by omega)]
    rfl
  unfold cut
  rw [e1, e2, List.drop_zero, Nat.sub_zero]
  by_cases h : k ≤ xs.length
  · rw [Nat.min_eq_left h]
  · rw [Nat.min_eq_right (by omega), List.take_of_length_le (Nat.le_refl _), List.take_of_length_le (by omega)]
theorem slc_take {xs : List D} {k : Nat} : slcD (.tup xs) none (some (k : Int)) M = .ok (.tup (xs.take k)) M := by
  show ofOpt ((some (cut xs none (some (k : Int)))).map D.tup) M = _
  rw [cut_take]
  rfl
theorem row_take {k : Nat} : (r.map fun x => D.int (x : Nat)).take k = (r.take k).map fun x => D.int (x : Nat) := List.map_take.symm
theorem s_require_number {k l : Nat} (h : 3 ≤ n) (hk : k ≤ l) (hl : l ≤ 1000) : run fs n i_require_number [.int (k : Nat), .int 0, .int (l : Nat)] M = .ok .non M := by
  obtain ⟨m, rfl, hm⟩ := lev h
  refine run_pp (fd := fd_require_number) (G := []) rfl ⟨rfl, Nat.le_refl _⟩ rfl ?_ rfl
  show (evSs _ b_require_number [some (.int (k : Nat)), some (.int 0), some (.int (l : Nat))] []).res = _
  have e0 := s_is_near (n := m) (M := []) (x := (k : Int)) hm (by omega) (by omega)
  have e1 : decide ((k : Int) < 0) = false := decide_eq_false (by omega)
  have e2 : decide ((l : Int) < (k : Int)) = false := decide_eq_false (by omega)
  unfold b_require_number
  simp only [evSs_cons, evS_ife, evE_or, evE_not, evE_tst, evE_call, evEs_cons, evEs_nil, evE_var, List.getElem?_cons_zero, List.getElem?_cons_succ, getV_some, bind_ok, e0, truth_bl, Option.map_some, ofOpt_some, test_bl, Bool.not_true, onBl_f, evE_and, evE_cmp, evE_con, c_isNot, isNon_int, Bool.not_false, onBl_t, c_lt, c_gt, e1, e2, out_ok, Bool.false_eq_true, if_false, evSs_nil, next_nx, res_nx]
theorem s_counts_of (h : 8 ≤ n) (S : Shares qs) (R : Row qs.length r) : run fs n i_counts_of [shD qs, rowD r] M = .ok (.tup (cntL qs.length r)) M := by
  obtain ⟨m, rfl, hm⟩ := lev h
  refine run_pp (fd := fd_counts_of) (G := [.lst (cntL qs.length r)]) rfl ⟨rfl, Nat.le_refl _⟩ (by simp [pure_frs, pure_row]) ?_ (by rw [pure_tup]; exact pure_cnt)
  show (evSs _ b_counts_of [some (shD qs), some (rowD r)] []).res = _
  have e1 := s_require (n := m) (M := []) (by omega) S R
  have e2 := s_counts_in (n := m) (M := []) (by omega) S.l8 R
  have e3 := bl_tuple_o (M := [.lst (cntL qs.length r)]) (a := 0) rfl
  unfold b_counts_of
  simp only [evSs_cons, evS_exp, evE_call, evEs_cons, evEs_nil, evE_var, List.getElem?_cons_zero, List.getElem?_cons_succ, getV_some, bind_ok, e1, out_ok, next_nx, evS_ret, evE_blt, e2, List.length_nil, List.nil_append, e3, next_ret, res_ret]
theorem s_off_at {k : Nat} (h : 8 ≤ n) (S : Shares qs) (R : Row qs.length r) (hk : k ≤ r.length) : run fs n i_off_at [shD qs, rowD r, .int (k : Nat)] M = .ok (.tup ((offs qs (r.take k)).map fr)) M := by
  obtain ⟨m, rfl, hm⟩ := lev h
  have hl := R.len
  refine run_pp (fd := fd_off_at) (G := [.lst (cntL qs.length (r.take k)), .lst ((offs qs (r.take k)).map fr)]) rfl ⟨rfl, Nat.le_refl _⟩ (by simp [pure_frs, pure_row]) ?_ (by rw [pure_tup]; exact pure_offs)
  show (evSs _ b_off_at [some (shD qs), some (rowD r), some (.int (k : Nat))] []).res = _
  have e1 := s_require (n := m) (M := []) (by omega) S R
  have e2 := s_counts_in (n := m) (M := []) (by omega) S.l8 (R.take k)
  have e3 := s_offs_in (n := m) (M := [.lst (cntL qs.length (r.take k))]) (a := 0) (by omega) S (R.take k) rfl
  have e4 := bl_tuple_o (M := [.lst (cntL qs.length (r.take k)), .lst ((offs qs (r.take k)).map fr)]) (a := 1) rfl
  have e5 := s_require_number (n := m) (M := []) (by omega) hk (by omega)
  unfold b_off_at
  simp only [evSs_cons, evS_exp, evE_call, evEs_cons, evEs_nil, evE_var, List.getElem?_cons_zero, List.getElem?_cons_succ, getV_some, bind_ok, e1, out_ok, next_nx, evE_con, evE_blt, bl_len, List.length_map, e5, evS_ret, evE_slcT, intR_int, slc_take, row_take, e2, List.length_nil, List.nil_append, e3, List.length_cons, List.cons_append, e4, next_ret, res_ret]
theorem s_off_of (h : 8 ≤ n) (S : Shares qs) (R : Row qs.length r) : run fs n i_off_of [shD qs, rowD r] M = .ok (fr (bst qs r r.length)) M := by
  obtain ⟨m, rfl, hm⟩ := lev h
  refine run_pp (fd := fd_off_of) (G := []) rfl ⟨rfl, Nat.le_refl _⟩ (by simp [pure_frs, pure_row]) ?_ rfl
  show (evSs _ b_off_of [some (shD qs), some (rowD r)] []).res = _
  have e1 := s_require (n := m) (M := []) (by omega) S R
  have e2 := s_row_off_in (n := m) (M := []) (by omega) S R
  unfold b_off_of
  simp only [evSs_cons, evS_exp, evE_call, evEs_cons, evEs_nil, evE_var, List.getElem?_cons_zero, List.getElem?_cons_succ, getV_some, bind_ok, e1, out_ok, next_nx, evS_ret, e2, next_ret, res_ret]
theorem s_is_spread (h : 8 ≤ n) (S : Shares qs) (R : Row qs.length r) : run fs n i_is_spread [shD qs, rowD r] M = .ok (.bl (decide (bst qs r r.length ≤ bnd qs.length))) M := by
  obtain ⟨m, rfl, hm⟩ := lev h
  refine run_pp (fd := fd_is_spread) (G := []) rfl ⟨rfl, Nat.le_refl _⟩ (by simp [pure_frs, pure_row]) ?_ rfl
  show (evSs _ b_is_spread [some (shD qs), some (rowD r)] []).res = _
  have e1 := s_require (n := m) (M := []) (by omega) S R
  have e2 := s_row_off_in (n := m) (M := []) (by omega) S R
  have e3 := s_bound_in (n := m) (M := []) (by omega) S
  have e4 := s_most (n := m) (M := []) (by omega) (show 31 ≤ 3000 by decide) (bst_bd S R.len r.length) ((bnd_bd S.l2 S.l8).mono (show 10 ≤ 31 by decide))
  unfold b_is_spread
  simp only [evSs_cons, evS_exp, evE_call, evEs_cons, evEs_nil, evE_var, List.getElem?_cons_zero, List.getElem?_cons_succ, getV_some, bind_ok, e1, out_ok, next_nx, evS_ret, e2, e3, e4, next_ret, res_ret]
theorem s_keeps_within {b : Rat} (h : 8 ≤ n) (S : Shares qs) (R : Row qs.length r) (h1 : b.num.natAbs < 10 ^ 60) (h2 : b.den < 10 ^ 60) (h0 : 0 ≤ b.num) : run fs n i_keeps_within [shD qs, rowD r, fr b] M = .ok (.bl (decide (bst qs r r.length ≤ b))) M := by
  obtain ⟨m, rfl, hm⟩ := lev h
  refine run_pp (fd := fd_keeps_within) (G := []) rfl ⟨rfl, Nat.le_refl _⟩ (by simp [pure_frs, pure_row, pure_fr]) ?_ rfl
  show (evSs _ b_keeps_within [some (shD qs), some (rowD r), some (fr b)] []).res = _
  have e1 := s_require (n := m) (M := []) (by omega) S R
  have e2 := s_row_off_in (n := m) (M := []) (by omega) S R
  have e3 := s_is_near_fraction (n := m) (M := []) (q := b) (by omega) h1 h2
  have hb : Bd 3000 b := ⟨Nat.lt_of_lt_of_le h1 (by decide +kernel), Nat.lt_of_lt_of_le h2 (by decide +kernel)⟩
  have e4 := s_most (n := m) (M := []) (by omega) (Nat.le_refl 3000) ((bst_bd S R.len r.length).mono (show 31 ≤ 3000 by decide)) hb
  have e5 : idxD (fr b) (.int 0) [] = .ok (.int b.num) [] := ix0
  have e6 : decide (b.num < 0) = false := decide_eq_false (by omega)
  unfold b_keeps_within
  simp only [evSs_cons, evS_exp, evE_call, evEs_cons, evEs_nil, evE_var, List.getElem?_cons_zero, List.getElem?_cons_succ, getV_some, bind_ok, e1, out_ok, next_nx, evS_ife, evE_or, evE_not, evE_tst, e3, truth_bl, Option.map_some, ofOpt_some, test_bl, Bool.not_true, onBl_f, evE_cmp, evE_idx, evE_con, e5, c_lt, e6, Bool.false_eq_true, if_false, evSs_nil, evS_ret, e2, e4, next_ret, res_ret]
end
end K58
end
section
set_option Elab.async false
set_option linter.all false
set_option maxRecDepth 100000
set_option maxHeartbeats 1000000
set_option exponentiation.threshold 20000
/-! K58t: the law's own offs. -/
namespace K58
open PySem Mi PySem.W
section
variable {n : Nat} {M : Mem} {p q : Rat} {qs : List Rat} {r : List Nat}
theorem count_row {i : Nat} : mth .count (.tup (r.map fun x => .int (x : Nat))) [.int (i : Nat)] M = .ok (.int (r.count i : Nat)) M := by
  have e : countO (r.map fun x => D.int (x : Nat)) (.int (i : Nat)) M = some (.int (r.count i : Nat)) := by
    show (py M DEEP (.int (i : Nat))).bind (fun p => ((r.map fun x => D.int (x : Nat)).mapM (py M DEEP)).map fun ps => D.int (ps.countP fun z => PyData.eqv z p)) = _
    rw [mapM_map (f := fun x : Nat => D.int (x : Nat)) (g := py M DEEP) (h := fun x : Nat => Datum.toD (x : Int)) (fun x => rfl) r]
    show some (D.int (((r.map fun x : Nat => Datum.toD (x : Int)).countP fun z => PyData.eqv z (Datum.toD (i : Int)) : Nat) : Int)) = _
    have e1 : (r.map fun x : Nat => Datum.toD (x : Int)) = (r.map fun x : Nat => (x : Int)).map Datum.toD := by rw [List.map_map]; rfl
    rw [e1, count_datum, List.countP_map]
    congr 3
    unfold List.count
    apply List.countP_congr
    intro x _
    simp
    exact ⟨fun h => by omega, fun h => by omega⟩
  show ofOpt (countO (r.map fun x => D.int (x : Nat)) (.int (i : Nat)) M) M = _
  rw [e]
  rfl
theorem neg_fr : (.tup [.int (0 - q.num), .int (q.den : Int)] : D) = fr (-q) := by
  unfold fr
  rw [Rat.neg_num, Rat.neg_den, Int.zero_sub]
theorem s_re_minus {b : Nat} (h : 4 ≤ n) (hb : b ≤ 3000) (hp : Bd b p) (hq : Bd b q) : run fs n i__law_re_minus [fr p, fr q] M = .ok (fr (p - q)) M := by
  obtain ⟨m, rfl, hm⟩ := lev h
  refine run_pp (fd := fd__law_re_minus) (G := []) rfl ⟨rfl, Nat.le_refl _⟩ rfl ?_ rfl
  show (evSs _ b__law_re_minus [some (fr p), some (fr q)] []).res = _
  have e := s_lplus (n := m) (M := []) hm hb hp (neg_bd hq)
  have e1 : idxD (fr q) (.int 0) [] = .ok (.int q.num) [] := ix0
  have e2 : idxD (fr q) (.int 1) [] = .ok (.int (q.den : Int)) [] := ix1
  rw [Rat.sub_eq_add_neg]
  unfold b__law_re_minus
  simp only [evSs_cons, evS_ret, evE_call, evEs_cons, evEs_nil, evE_var, List.getElem?_cons_zero, List.getElem?_cons_succ, getV_some, bind_ok, evE_tup, evE_bin, evE_con, evE_idx, e1, e2, b_sub, neg_fr, List.length_cons, List.length_nil]
  rw [if_pos (by decide)]
  simp only [bind_ok, e, out_ok, next_ret, res_ret]
theorem s_sp_offs {k : Nat} (h : 5 ≤ n) (S : Shares qs) (R : Row qs.length r) (hk : k ≤ r.length) : run fs n i__law_sp_offs [shD qs, rowD r, .int (k : Nat)] M = .ok (.obj M.length) (M ++ [.lst ((offs qs (r.take k)).map fr)]) := by
  obtain ⟨m, rfl, hm⟩ := lev h
  have hl := R.len
  have h8 := S.l8
  have htk : (r.take k).length = k := by rw [List.length_take]; omega
  have lc := lc_pure (F := run fs m) (e := .call i__law_re_minus (.cons (.tup (.cons (.mth .count (.slcT (.var 1) (.var 2)) (.cons (.var 3) .nil)) (.cons (.con (.int 1)) .nil))) (.cons (.call i__law_fr_times (.cons (.tup (.cons (.var 2) (.cons (.con (.int 1)) .nil))) (.cons (.var 4) .nil))) .nil))) (t := .tup [.nm 3, .nm 4]) (it := .enum (.var 0)) (own := [3, 4]) (ρ := [some (shD qs), some (rowD r), some (.int (k : Nat)), none, none]) (M := []) (M1 := []) (sr := .enum (.tup (qs.map fr))) (ys := enL (qs.map fr)) (f := fun i d => match qs[i]? with | some q => fr (offA q ((r.take k).count i) (r.take k).length) | none => d)
    (by simp only [evI_enum, evE_var, List.getElem?_cons_succ, List.getElem?_cons_zero, getV_some, bind_ok, srOf_tup, Option.map_some, ofOpt_some])
    (fun i hi => at_en (at_tup (by rw [enL_len] at hi; exact hi)))
    (by rw [enL_len, List.length_map]; have : LIM = 16777216 := rfl; omega) (fun i d hd => by
      obtain ⟨x, h1, rfl⟩ := enL_get hd
      obtain ⟨q, hq, rfl⟩ := map_get h1
      have bq := S.bd (List.mem_of_getElem? hq)
      have hc : (r.take k).count i ≤ 1000 := Nat.le_trans List.count_le_length (by omega)
      refine ⟨[some (shD qs), some (rowD r), some (.int (k : Nat)), some (.int (i : Nat)), some (fr q)], by simp [wipeE], ?_⟩
      have e1 := s_ltimes (M := []) (n := m) (by omega) (show 20 ≤ 3000 by decide) ((nat_bd (k := k) (by omega)).mono (show 10 ≤ 20 by decide)) (bq.mono (show 10 ≤ 20 by decide))
      have e2 := s_re_minus (M := []) (n := m) hm (show 20 ≤ 3000 by decide) ((nat_bd (k := (r.take k).count i) hc).mono (show 10 ≤ 20 by decide)) (mul_bd2 (nat_bd (k := k) (by omega)) bq)
      rw [← fr_nat] at e1 e2
      have e3 : mthOk .count (.tup ((r.take k).map fun x => D.int (x : Nat))) [] = true := rfl
      simp only [evE_call, evEs_cons, evE_tup, evE_mth, evE_slcT, evE_var, List.getElem?_cons_succ, List.getElem?_cons_zero, getV_some, bind_ok, intR_int, slc_take, row_take, evEs_nil, evE_con, List.length_cons, List.length_nil, e3, if_true, count_row]
      rw [if_pos (by decide), bind_ok, if_pos (by decide)]
      simp only [bind_ok, e1, e2, hq, htk]
      rfl)
  have ef : ((enL (qs.map fr)).zipIdx.map fun d => (match qs[d.2]? with | some q => fr (offA q ((r.take k).count d.2) (r.take k).length) | none => d.1)) = (offs qs (r.take k)).map fr := by
    apply List.ext_getElem?
    intro i
    unfold offs
    rw [List.map_map, List.getElem?_map, List.getElem?_map, List.getElem?_zipIdx, List.getElem?_zipIdx]
    by_cases hi : i < qs.length
    · have h3 : i < (enL (qs.map fr)).length := by rw [enL_len, List.length_map]; exact hi
      rw [List.getElem?_eq_getElem h3, List.getElem?_eq_getElem hi]
      simp [hi]
    · rw [List.getElem?_eq_none (by rw [enL_len, List.length_map]; omega), List.getElem?_eq_none (by omega)]
      rfl
  rw [ef] at lc
  refine run_pl (fd := fd__law_sp_offs) (j := 0) (ys := (offs qs (r.take k)).map fr) (G := [.lst ((offs qs (r.take k)).map fr)]) rfl ⟨rfl, by show 3 ≤ 5; decide⟩ (by simp [pure_frs, pure_row]) ?_ rfl pure_offs
  show (evSs _ b__law_sp_offs [some (shD qs), some (rowD r), some (.int (k : Nat)), none, none] []).res = _
  unfold b__law_sp_offs
  rw [evSs_cons, evS_ret, lc]
  simp
/-- the law's greatest off behind k turns -/
def lb (qs : List Rat) (r : List Nat) : Nat → Rat
  | 0 => 0
  | k + 1 => mx (lb qs r k) (offs qs (r.take k))
theorem lb_bd (S : Shares qs) (hl : r.length ≤ 60) : ∀ i, Bd 31 (lb qs r i)
  | 0 => zero_bd (by decide)
  | i + 1 => mx_bd (lb_bd S hl i) (offs_bd S (by rw [List.length_take]; omega))
theorem off_zero : offA q 0 0 = 0 := by
  unfold offA
  show ((0 : Int) : Rat) - ((0 : Int) : Rat) * q = 0
  rw [Rat.intCast_zero, Rat.zero_mul, Rat.sub_self]
theorem absR_zero : absR 0 = 0 := by
  unfold absR
  rw [if_neg (by decide)]
theorem mx_zero : ∀ {ps : List Rat}, (∀ p ∈ ps, p = 0) → mx 0 ps = 0
  | [], _ => rfl
  | p :: ps, h => by
    have e : p = 0 := h p List.mem_cons_self
    subst e
    show mx (up 0 0) ps = 0
    have : up 0 0 = 0 := by
      unfold up
      rw [absR_zero, if_neg Rat.lt_irrefl]
    rw [this]
    exact mx_zero fun x hx => h x (List.mem_cons_of_mem _ hx)
theorem lb_bst : ∀ i, lb qs r (i + 1) = bst qs r i
  | 0 => by
    show mx 0 (offs qs (r.take 0)) = 0
    refine mx_zero fun p hp => ?_
    obtain ⟨i, q, _, rfl⟩ := offs_mem hp
    rw [List.take_zero]
    exact off_zero
  | i + 1 => by
    show mx (lb qs r (i + 1)) (offs qs (r.take (i + 1))) = mx (bst qs r i) (offs qs (r.take (i + 1)))
    rw [lb_bst i]
theorem s_sp_off (h : 6 ≤ n) (S : Shares qs) (R : Row qs.length r) : run fs n i__law_sp_off [shD qs, rowD r] M = .ok (fr (bst qs r r.length)) M := by
  obtain ⟨m, rfl, hm⟩ := lev h
  have hl := R.len
  have h8 := S.l8
  obtain ⟨ρ', M', e1, o, t, b, e2⟩ := fr_rule (F := run fs m) (t := .nm 3) (it := .rng1 (.bin .Add (.blt .len (.cons (.var 1) .nil)) (.con (.int 1)))) (b := (.cons (.fr (.tup [.nm 4, .nm 5]) (.val (.call i__law_sp_offs (.cons (.var 0) (.cons (.var 1) (.cons (.var 3) .nil))))) (.cons (.asg (.nm 2) (.ite (.tst (.call i__law_fr_less (.cons (.var 2) (.cons (.tup (.cons (.blt .abs (.cons (.var 4) .nil)) (.cons (.var 5) .nil))) .nil)))) (.tup (.cons (.blt .abs (.cons (.var 4) .nil)) (.cons (.var 5) .nil))) (.var 2))) .nil)) .nil)) (ρ := [some (shD qs), some (rowD r), some (fr 0), none, none, none]) (M := []) (M1 := []) (sr := .rng 0 (r.length + 1)) (ys := rngL 0 (r.length + 1))
    (fun i ρ M => ∃ o t b, ρ = [some (shD qs), some (rowD r), some (fr (lb qs r i)), o, t, b])
    (by
      have := rng1_nat (k := r.length + 1) (by have : LIM = 16777216 := rfl; omega)
      simp only [evI_rng1, evE_bin, evE_blt, evEs_cons, evE_var, List.getElem?_cons_succ, List.getElem?_cons_zero, getV_some, bind_ok, evEs_nil, bl_len, evE_con, b_add, List.length_map]
      rw [show ((r.length : Nat) : Int) + 1 = ((r.length + 1 : Nat) : Int) by omega, this]
      rfl) (fun i ρ M hM h => at_rng) (by rw [rngL_len]; have : LIM = 16777216 := rfl; omega) ⟨none, none, none, rfl⟩ (fun i d ρ M hd ⟨o, t, b, hρ⟩ => by
      obtain ⟨hi, rfl⟩ := rngL_get hd
      rw [Int.zero_add]
      have a2 := s_sp_offs (n := m) (M := M) hm S R (k := i) (by omega)
      have g2 : (M ++ [.lst ((offs qs (r.take i)).map fr)])[M.length]? = some (.lst ((offs qs (r.take i)).map fr)) := by simp
      have ht : (r.take i).length ≤ 60 := by rw [List.length_take]; omega
      obtain ⟨ρ2, M2, b1, b2, t2, d2, b3⟩ := fr_rule (F := run fs m) (t := .tup [.nm 4, .nm 5]) (it := .val (.call i__law_sp_offs (.cons (.var 0) (.cons (.var 1) (.cons (.var 3) .nil))))) (b := (.cons (.asg (.nm 2) (.ite (.tst (.call i__law_fr_less (.cons (.var 2) (.cons (.tup (.cons (.blt .abs (.cons (.var 4) .nil)) (.cons (.var 5) .nil))) .nil)))) (.tup (.cons (.blt .abs (.cons (.var 4) .nil)) (.cons (.var 5) .nil))) (.var 2))) .nil)) (ρ := [some (shD qs), some (rowD r), some (fr (lb qs r i)), some (.int i), t, b]) (M := M) (M1 := M ++ [.lst ((offs qs (r.take i)).map fr)]) (sr := .lst M.length) (ys := (offs qs (r.take i)).map fr)
        (fun j ρ M' => M' = M ++ [.lst ((offs qs (r.take i)).map fr)] ∧ ∃ t b, ρ = [some (shD qs), some (rowD r), some (fr (mx (lb qs r i) ((offs qs (r.take i)).take j))), some (.int i), t, b])
        (by simp only [evI_val, evE_call, evEs_cons, evE_var, List.getElem?_cons_succ, List.getElem?_cons_zero, getV_some, bind_ok, evEs_nil, a2, srOf_obj g2, ofOpt_some])
        (fun j ρ M ⟨hM, _⟩ h => by rw [hM]; exact at_lst g2 h) (by rw [List.length_map, offs_len]; have : LIM = 16777216 := rfl; omega) ⟨rfl, t, b, rfl⟩ (fun j d ρ M' hd ⟨hM, t, b, hρ⟩ => by
          subst hM hρ
          obtain ⟨q, hq, rfl⟩ := map_get hd
          have hb := mx_bd (c := 31) (ps := (offs qs (r.take i)).take j) (lb_bd S hl i) fun q hq => offs_bd S ht q (List.mem_of_mem_take hq)
          have hqb := absR_bd (offs_bd S ht q (List.mem_of_getElem? hq))
          obtain ⟨c1, c2⟩ := less_abs (F := run fs m) (M := M ++ [.lst ((offs qs (r.take i)).map fr)]) (i := i__law_fr_less) (jb := 2) (jt := 4) (jd := 5) (q := q) (b := mx (lb qs r i) ((offs qs (r.take i)).take j)) (ρ := [some (shD qs), some (rowD r), some (fr (mx (lb qs r i) ((offs qs (r.take i)).take j))), some (.int i), some (.int q.num), some (.int (q.den : Int))]) (s_lless (by omega) (by decide) hb hqb) rfl rfl rfl
          refine ⟨[some (shD qs), some (rowD r), some (fr (mx (lb qs r i) ((offs qs (r.take i)).take j))), some (.int i), some (.int q.num), some (.int (q.den : Int))], _, _, by simp [fr], .inl ?_, rfl, some (.int q.num), some (.int (q.den : Int)), by rw [mx_take hq]⟩
          rw [evSs_cons, evS_asg, evE_ite, evE_tst, c1]
          simp only [bind_ok, truth_bl, Option.map_some, ofOpt_some, test_bl]
          unfold up
          by_cases hlt : mx (lb qs r i) ((offs qs (r.take i)).take j) < absR q
          · rw [if_pos hlt, if_pos (decide_eq_true hlt), c2, out_ok]
            simp
          · rw [if_neg hlt, if_neg (by simpa using hlt)]
            simp)
      subst b2 b3
      rw [List.length_map, List.take_of_length_le (Nat.le_refl _)] at b1
      refine ⟨[some (shD qs), some (rowD r), some (fr (lb qs r i)), some (.int i), t, b], _, M ++ [.lst ((offs qs (r.take i)).map fr)], by rw [hρ]; simp, .inl ?_, some (.int i), t2, d2, rfl⟩
      rw [evSs_cons, b1]
      rfl)
  rw [rngL_len, lb_bst] at e2
  subst e2
  refine run_pp (fd := fd__law_sp_off) (G := M') rfl ⟨rfl, by show 2 ≤ 6; decide⟩ (by simp [pure_frs, pure_row]) ?_ rfl
  show (evSs _ b__law_sp_off [some (shD qs), some (rowD r), none, none, none, none] []).res = _
  have e0 : evS (run fs m) (.asg (.nm 2) (.tup (.cons (.con (.int 0)) (.cons (.con (.int 1)) .nil)))) [some (shD qs), some (rowD r), none, none, none, none] [] = .nx [some (shD qs), some (rowD r), some (fr 0), none, none, none] [] := by
    simp [LIM]
    rfl
  unfold b__law_sp_off
  rw [evSs_cons, e0, next_nx, evSs_cons, e1]
  simp
theorem s_sp_bound (h : 3 ≤ n) (S : Shares qs) : run fs n i__law_sp_bound [shD qs] M = .ok (fr (bnd qs.length)) M := by
  obtain ⟨m, rfl, hm⟩ := lev h
  have h2 := S.l2
  have h8 := S.l8
  refine run_pp (fd := fd__law_sp_bound) (G := []) rfl ⟨rfl, Nat.le_refl _⟩ (by simp [pure_frs]) ?_ rfl
  show (evSs _ b__law_sp_bound [some (shD qs)] []).res = _
  have e1 := b_mul (p := 2) (q := (qs.length : Nat)) (M := []) (small (by decide)) (small (by omega))
  have e2 := hFL hm (2 * (qs.length : Int) - 3) (2 * (qs.length : Int) - 2) [] (by omega) (small (by omega)) (small (by omega))
  unfold b__law_sp_bound
  simp only [evSs_cons, evS_ret, evE_call, evEs_cons, evEs_nil, evE_var, List.getElem?_cons_zero, getV_some, bind_ok, evE_bin, evE_con, evE_blt, bl_len, List.length_map, e1, b_sub, e2, out_ok, next_ret, res_ret]
  rfl
end
end K58
end
section
set_option Elab.async false
set_option linter.all false
set_option maxRecDepth 100000
set_option maxHeartbeats 1000000
set_option exponentiation.threshold 20000
/-! K58u: rolled shares, rolled rows. -/
namespace K58
open PySem Mi
section
variable {n : Nat} {M : Mem} {p q : Rat} {qs : List Rat} {r : List Nat}
theorem hR {m : Nat} (h : 1 ≤ m) : Rolls fs m i__law_roll := s_roll rfl h
/-! ### shares -/
theorem divInt_add {a b s : Int} : Rat.divInt a s + Rat.divInt b s = Rat.divInt (a + b) s := by
  rw [Rat.divInt_eq_div, Rat.divInt_eq_div, Rat.divInt_eq_div, Rat.div_def, Rat.div_def, Rat.div_def, ← Rat.add_mul, Rat.intCast_add]
theorem sum_divInt {s : Int} : ∀ (ps : List Int) (a : Int), (ps.map fun p => Rat.divInt p s).foldl (· + ·) (Rat.divInt a s) = Rat.divInt (a + ps.sum) s
  | [], a => by simp
  | p :: ps, a => by
    rw [List.map_cons, List.foldl_cons, divInt_add, sum_divInt ps (a + p), List.sum_cons, Int.add_assoc]
theorem sum_bounds : ∀ {ps : List Int}, (∀ p ∈ ps, 1 ≤ p ∧ p ≤ 59) → (ps.length : Int) ≤ ps.sum ∧ ps.sum ≤ 59 * ps.length
  | [], _ => by simp
  | p :: ps, h => by
    obtain ⟨h1, h2⟩ := sum_bounds fun x hx => h x (List.mem_cons_of_mem _ hx)
    obtain ⟨h3, h4⟩ := h p List.mem_cons_self
    rw [List.sum_cons, List.length_cons]
    omega
theorem shares_of {ps : List Int} (h2 : 2 ≤ ps.length) (h8 : ps.length ≤ 8) (h : ∀ p ∈ ps, 1 ≤ p ∧ p ≤ 59) : Shares (ps.map fun p => Rat.divInt p ps.sum) := by
  obtain ⟨b1, b2⟩ := sum_bounds h
  have s0 : 0 < ps.sum := by omega
  have each : ∀ q ∈ ps.map (fun p => Rat.divInt p ps.sum), ∃ p, 1 ≤ p ∧ p ≤ 59 ∧ q = Rat.divInt p ps.sum := fun q hq => by
    obtain ⟨p, hp, rfl⟩ := List.mem_map.mp hq
    exact ⟨p, (h p hp).1, (h p hp).2, rfl⟩
  refine ⟨by rw [List.length_map]; exact h2, by rw [List.length_map]; exact h8, fun q hq => ?_, fun q hq => ?_, fun q hq => ?_, ?_⟩
  · obtain ⟨p, p1, p2, rfl⟩ := each q hq
    rw [Rat.num_divInt, Int.sign_eq_one_of_pos s0, Int.one_mul, Int.gcd_comm]
    have g0 : 0 < Int.gcd p ps.sum := Int.gcd_pos_of_ne_zero_right p (by omega)
    have g1 : ((Int.gcd p ps.sum : Nat) : Int) ∣ p := Int.gcd_dvd_left ..
    have g2 := Int.le_of_dvd (by omega) g1
    exact Int.ediv_pos_of_pos_of_dvd (by omega) (by omega) g1
  · obtain ⟨p, p1, p2, rfl⟩ := each q hq
    rw [Rat.den_divInt, if_neg (by omega)]
    have := Nat.div_le_self ps.sum.natAbs (ps.sum.gcd p)
    omega
  · obtain ⟨p, p1, p2, rfl⟩ := each q hq
    rw [Rat.num_divInt, Int.sign_eq_one_of_pos s0, Int.one_mul]
    have := Int.ediv_le_self (b := (ps.sum.gcd p : Int)) (a := p) (by omega)
    omega
  · have e := sum_divInt (s := ps.sum) ps 0
    rw [Rat.zero_divInt, Int.zero_add, Rat.divInt_self' (by omega)] at e
    exact e
theorem pure_ints : ∀ ps : List Int, pureL (ps.map D.int) = true
  | [] => rfl
  | p :: ps => by rw [List.map_cons, pure_cons, pure_int, pure_ints ps]; rfl
theorem ints_map : ∀ ps : List Int, intsD (ps.map D.int) = some ps
  | [] => rfl
  | p :: ps => by
    rw [List.map_cons]
    show (intsD (ps.map D.int)).map (p :: ·) = _
    rw [ints_map ps]
    rfl
/-- roll, as an expression's value -/
theorem roll_e {F : Fns} {ρ : Mi.Env} {a c : Nat} {t : Int} {e : E} (hF : ∃ r xs', F i__law_roll [.obj a, .int t] M = .ok (.int r) (M.set a (.lst xs')) ∧ 0 ≤ r ∧ r < t ∧ Dice c xs') (h0 : ρ[0]? = some (some (.obj a))) (he : evE F e ρ M = .ok (.int t) M) :
    ∃ r xs', evE F (.call i__law_roll (.cons (.var 0) (.cons e .nil))) ρ M = .ok (.int r) (M.set a (.lst xs')) ∧ 0 ≤ r ∧ r < t ∧ Dice c xs' := by
  obtain ⟨r, xs', h1, h2, h3, h4⟩ := hF
  refine ⟨r, xs', ?_, h2, h3, h4⟩
  rw [evE_call, evEs_cons, evE_var, h0, getV_some, bind_ok, evEs_cons, he, bind_ok, evEs_nil, bind_ok, bind_ok, bind_ok, h1]
theorem set0 {x y : MO} {G : Mem} : ((x :: G : Mem)).set 0 y = y :: G := rfl
theorem sset_at {F : Fns} {ρ : Mi.Env} {M M' : Mem} {o i e : E} {x y v : D} (he : evE F e ρ M = .ok v M) (ho : evE F o ρ M = .ok x M) (hi : evE F i ρ M = .ok y M) (h : setD x y v M = some M') : evS F (.sset o i e) ρ M = .nx ρ M' := by
  show (evE F e ρ M).out ρ (fun v M => (evE F o ρ M).out ρ fun x M => (evE F i ρ M).out ρ fun k M => match setD x k v M with
    | some M => .nx ρ M
    | none => .bad) = _
  rw [he, out_ok, ho, out_ok, hi, out_ok, h]
theorem s_shares {a c : Nat} {xs : List D} (h : 4 ≤ n) (ha : M[a]? = some (.lst xs)) (hd : Dice c xs) (hc : c ≤ 2 ^ 900) : ∃ qs xs', run fs n i__law_shares [.obj a, .int 8] M = .ok (shD qs) (M.set a (.lst xs')) ∧ Shares qs ∧ Dice (c + 20) xs' := by
  obtain ⟨m, rfl, hm⟩ := lev h
  have roll : ∀ {c : Nat} {xs : List D} {t : Int} {G : Mem}, Dice c xs → c < 2 ^ 1000 → 0 < t → t < 2 ^ 1000 → ∃ r xs', run fs m i__law_roll [.obj 0, .int t] (.lst xs :: G) = .ok (.int r) ((.lst xs :: G : Mem).set 0 (.lst xs')) ∧ 0 ≤ r ∧ r < t ∧ Dice (c + 1) xs' :=
    fun hd hc h1 h2 => hR (by omega) _ 0 _ _ _ rfl hd hc h1 h2
  have big : ∀ k : Nat, k ≤ 100 → c + k < 2 ^ 1000 := fun k hk => Nat.lt_of_le_of_lt (Nat.add_le_add hc hk) (by decide +kernel)
  have tb : ∀ {t : Int}, t ≤ 1000 → t < 2 ^ 1000 := fun h => Int.lt_of_le_of_lt h (by decide +kernel)
  -- how many
  obtain ⟨r1, xs1, a1, a2, a3, a4⟩ := roll_e (F := run fs m) (ρ := [some (.obj 0), some (.int 8), none, none, none, none]) (M := [.lst xs]) (e := .bin .Sub (.var 1) (.con (.int 1))) (roll (t := 7) (G := []) hd (by have := big 0 (by decide); omega) (by decide) (tb (by decide))) rfl (by simp)
  obtain ⟨k, hk⟩ : ∃ k : Nat, 2 + r1 = (k : Int) := ⟨(2 + r1).toNat, by omega⟩
  -- the parts
  obtain ⟨acc, M2, b1, ps, b2, b3, b4, xs2, b5, b6⟩ := lc_acc (F := run fs m) (e := .bin .Add (.con (.int 1)) (.call i__law_roll (.cons (.var 0) (.cons (.con (.int 9)) .nil)))) (t := .nm 4) (it := .rng1 (.var 2)) (own := [4]) (ρ := [some (.obj 0), some (.int 8), some (.int k), none, none, none]) (M := [.lst xs1]) (M1 := [.lst xs1]) (sr := .rng 0 k) (ys := rngL 0 k)
    (fun i acc M => ∃ ps : List Int, acc = ps.map D.int ∧ ps.length = i ∧ (∀ p ∈ ps, 1 ≤ p ∧ p ≤ 9) ∧ ∃ xs, M = [.lst xs] ∧ Dice (c + 1 + i) xs)
    (by
      have := rng1_nat (k := k) (by have : LIM = 16777216 := rfl; omega)
      simp only [evI_rng1, evE_var, List.getElem?_cons_succ, List.getElem?_cons_zero, getV_some, bind_ok, this, ofOpt_some])
    (fun i acc M hM h => at_rng) (by rw [rngL_len]; have : LIM = 16777216 := rfl; omega) ⟨[], rfl, rfl, fun p hp => (nomatch hp), xs1, rfl, a4⟩ (fun i d acc M hd' ⟨ps, h1, h2, h3, xs, h4, h5⟩ => by
      obtain ⟨hi, rfl⟩ := rngL_get hd'
      subst h4
      obtain ⟨r, xs', c1, c2, c3, c4⟩ := roll_e (F := run fs m) (ρ := [some (.obj 0), some (.int 8), some (.int k), none, some (.int (0 + (i : Int))), none]) (M := [.lst xs]) (e := .con (.int 9)) (roll (t := 9) (G := []) h5 (by have := big (1 + i) (by omega); omega) (by decide) (tb (by decide))) rfl rfl
      refine ⟨[some (.obj 0), some (.int 8), some (.int k), none, some (.int (0 + (i : Int))), none], .int (1 + r), [.lst xs'], by simp [wipeE], ?_, ps ++ [1 + r], by rw [h1]; simp, by simp [h2], ?_, xs', rfl, c4⟩
      · rw [evE_bin, evE_con, bind_ok, c1, bind_ok, b_add]
        rfl
      · intro p hp
        rcases List.mem_append.mp hp with hp | hp
        · exact h3 p hp
        · have : p = 1 + r := by simpa using hp
          omega)
  rw [rngL_len] at b3 b6
  subst b2 b5
  -- all alike
  have roll4 : ∀ {c : Nat} {xs : List D} {G : Mem} {b : D}, Dice c xs → c < 2 ^ 1000 → ∃ (r : Int) (xs' : List D), evE (run fs m) (.cmp .Eq (.call i__law_roll (.cons (.var 0) (.cons (.con (.int 4)) .nil))) (.con (.int 0))) [some (.obj 0), some (.int 8), some (.int k), some b, none, none] (.lst xs :: G) = .ok (.bl (decide (r = 0))) (.lst xs' :: G) ∧ Dice (c + 1) xs' := fun {c xs G b} hd hc => by
    obtain ⟨r, xs', c1, c2, c3, c4⟩ := roll_e (F := run fs m) (ρ := [some (.obj 0), some (.int 8), some (.int k), some b, none, none]) (M := .lst xs :: G) (e := .con (.int 4)) (roll (t := 4) (G := G) hd hc (by decide) (tb (by decide))) rfl rfl
    exact ⟨r, xs', by rw [evE_cmp, c1, bind_ok, evE_con, bind_ok, c_eq]; rfl, c4⟩
  -- all alike
  obtain ⟨r3, xs3, d1, d2⟩ := roll4 (G := [.lst (ps.map D.int)]) (b := .obj 1) b6 (by have := big (1 + k) (by omega); omega)
  obtain ⟨b, G, ps2, st3, g2, g3, g4⟩ : ∃ (b : Nat) (G : Mem) (pz : List Int), evS (run fs m) (.ife (.cmp .Eq (.call i__law_roll (.cons (.var 0) (.cons (.con (.int 4)) .nil))) (.con (.int 0))) (.cons (.asg (.nm 3) (.bin .Mult (.lst (.cons (.con (.int 1)) .nil)) (.var 2))) .nil) .nil) [some (.obj 0), some (.int 8), some (.int k), some (.obj 1), none, none] [.lst xs2, .lst (ps.map D.int)] = .nx [some (.obj 0), some (.int 8), some (.int k), some (.obj (b + 1)), none, none] (.lst xs3 :: G) ∧ G[b]? = some (.lst (pz.map D.int)) ∧ pz.length = k ∧ ∀ p ∈ pz, 1 ≤ p ∧ p ≤ 9 := by
    simp only [evS_ife, d1, test_bl, out_ok]
    by_cases h3 : r3 = 0
    · simp only [h3, decide_true, if_true]
      have e4 := rep_list (M := [.lst xs3, .lst (ps.map D.int), .lst [.int 1]]) (a := 2) (c := .int 1) (k := k) rfl (by omega)
      have e5 : evE (run fs m) (.lst (.cons (.con (.int 1)) .nil)) [some (.obj 0), some (.int 8), some (.int k), some (.obj 1), none, none] [.lst xs3, .lst (ps.map D.int)] = .ok (.obj 2) [.lst xs3, .lst (ps.map D.int), .lst [.int 1]] := by simp [LIM, Mi.alloc]
      refine ⟨2, [.lst (ps.map D.int), .lst [.int 1], .lst (List.replicate k (.int 1))], List.replicate k 1, ?_, by rw [List.map_replicate]; rfl, List.length_replicate, fun p hp => ?_⟩
      · rw [evSs_cons, evS_asg, evE_bin, e5, bind_ok, evE_var]
        simp only [List.getElem?_cons_succ, List.getElem?_cons_zero, getV_some, bind_ok, e4, out_ok]
        simp
      · rw [List.eq_of_mem_replicate hp]
        decide
    · simp only [h3, decide_false, Bool.false_eq_true, if_false, evSs_nil]
      refine ⟨0, [.lst (ps.map D.int)], ps, rfl, rfl, b3, fun p hp => ?_⟩
      exact b4 p hp
  -- one far ahead
  obtain ⟨r4, xs4, d3, d4⟩ := roll4 (G := G) (b := .obj (b + 1)) d2 (by have := big (1 + k + 1) (by omega); omega)
  obtain ⟨G2, ps3, st4, i2, i3, i4⟩ : ∃ (G2 : Mem) (ps : List Int), evS (run fs m) (.ife (.cmp .Eq (.call i__law_roll (.cons (.var 0) (.cons (.con (.int 4)) .nil))) (.con (.int 0))) (.cons (.sset (.var 3) (.con (.int 0)) (.bin .Add (.idx (.var 3) (.con (.int 0))) (.con (.int 50)))) .nil) .nil) [some (.obj 0), some (.int 8), some (.int k), some (.obj (b + 1)), none, none] (.lst xs3 :: G) = .nx [some (.obj 0), some (.int 8), some (.int k), some (.obj (b + 1)), none, none] (.lst xs4 :: G2) ∧ G2[b]? = some (.lst (ps.map D.int)) ∧ ps.length = k ∧ ∀ p ∈ ps, 1 ≤ p ∧ p ≤ 59 := by
    simp only [evS_ife, d3, test_bl, out_ok]
    by_cases h3 : r4 = 0
    · simp only [h3, decide_true, if_true]
      match ps2, g2, g3, g4 with
      | [], g2, g3, g4 => exact absurd g3 (by simp; omega)
      | p :: ps2, g2, g3, g4 =>
        have l0 : (.lst xs4 :: G : Mem)[b + 1]? = some (.lst ((p :: ps2).map D.int)) := g2
        have e1 : idxD (.obj (b + 1)) (.int 0) (.lst xs4 :: G) = .ok (.int p) (.lst xs4 :: G) := ix_lst (i := 0) l0 rfl
        have e2 := set_nat (M := .lst xs4 :: G) (a := b + 1) (j := 0) (v := .int (p + 50)) l0 (by simp)
        have lb : b < G.length := by
          rcases Nat.lt_or_ge b G.length with hb | hb
          · exact hb
          · rw [List.getElem?_eq_none hb] at g2
            cases g2
        refine ⟨G.set b (.lst (((p + 50) :: ps2).map D.int)), (p + 50) :: ps2, ?_, by rw [List.getElem?_set_self lb], g3, fun x hx => ?_⟩
        · have e3 : evE (run fs m) (.bin .Add (.idx (.var 3) (.con (.int 0))) (.con (.int 50))) [some (.obj 0), some (.int 8), some (.int k), some (.obj (b + 1)), none, none] (.lst xs4 :: G) = .ok (.int (p + 50)) (.lst xs4 :: G) := by
            simp only [evE_bin, evE_idx, evE_var, evE_con, List.getElem?_cons_succ, List.getElem?_cons_zero, getV_some, bind_ok, e1, b_add]
          have e4 : evS (run fs m) (.sset (.var 3) (.con (.int 0)) (.bin .Add (.idx (.var 3) (.con (.int 0))) (.con (.int 50)))) [some (.obj 0), some (.int 8), some (.int k), some (.obj (b + 1)), none, none] (.lst xs4 :: G) = .nx [some (.obj 0), some (.int 8), some (.int k), some (.obj (b + 1)), none, none] ((.lst xs4 :: G : Mem).set (b + 1) (.lst (((p :: ps2).map D.int).set 0 (.int (p + 50))))) := by
            refine sset_at e3 rfl rfl ?_
            exact e2
          rw [evSs_cons, e4]
          rfl
        · rcases List.mem_cons.mp hx with rfl | hx
          · have := g4 p List.mem_cons_self
            omega
          · have := g4 x (List.mem_cons_of_mem _ hx)
            omega
    · simp only [h3, decide_false, Bool.false_eq_true, if_false, evSs_nil]
      refine ⟨G, ps2, rfl, g2, g3, fun p hp => ?_⟩
      have := g4 p hp
      omega
  have S := shares_of (ps := ps3) (by omega) (by omega) i4
  obtain ⟨sb1, sb2⟩ := sum_bounds i4
  have g0 : (.lst xs4 :: G2 : Mem)[b + 1]? = some (.lst (ps3.map D.int)) := i2
  have lc := lc_pure (F := run fs m) (e := .call i__law_fraction (.cons (.var 5) (.cons (.blt .sum (.cons (.var 3) .nil)) .nil))) (t := .nm 5) (it := .val (.var 3)) (own := [5]) (ρ := [some (.obj 0), some (.int 8), some (.int k), some (.obj (b + 1)), none, none]) (M := .lst xs4 :: G2) (M1 := .lst xs4 :: G2) (sr := .lst (b + 1)) (ys := ps3.map D.int) (f := fun _ d => match d with | .int p => fr (Rat.divInt p ps3.sum) | _ => .non)
    (by simp only [evI_val, evE_var, List.getElem?_cons_succ, List.getElem?_cons_zero, getV_some, bind_ok, srOf_obj g0, ofOpt_some]) (fun i h => at_lst g0 h) (by rw [List.length_map]; have : LIM = 16777216 := rfl; omega) (fun i d hd => by
      obtain ⟨p, hp, rfl⟩ := map_get hd
      obtain ⟨p1, p2⟩ := i4 p (List.mem_of_getElem? hp)
      refine ⟨[some (.obj 0), some (.int 8), some (.int k), some (.obj (b + 1)), none, some (.int p)], by simp [wipeE], ?_⟩
      have e6 := hFL (m := m) (by omega) p ps3.sum (.lst xs4 :: G2) (by omega) (bits_num (b := 10) (by omega) (by decide)) (bits_num (b := 10) (by omega) (by decide))
      simp only [evE_call, evEs_cons, evE_var, evE_blt, List.getElem?_cons_succ, List.getElem?_cons_zero, getV_some, bind_ok, evEs_nil, bl_sum_o g0 (ints_map _), e6])
  have lz : ((ps3.map D.int).zipIdx.map fun d => (fun (_ : Nat) (d : D) => match d with | .int p => fr (Rat.divInt p ps3.sum) | _ => .non) d.2 d.1) = (ps3.map fun p => Rat.divInt p ps3.sum).map fr := by
    have : ∀ (l : List Int) (n : Nat), (((l.map D.int).zipIdx n).map fun d => (match d.1 with | .int p => fr (Rat.divInt p ps3.sum) | _ => .non : D)) = (l.map fun p => Rat.divInt p ps3.sum).map fr := fun l => by
      induction l with
      | nil => exact fun _ => rfl
      | cons a l ih => exact fun n => by rw [List.map_cons, List.zipIdx_cons, List.map_cons, ih, List.map_cons, List.map_cons]
    exact this ps3 0
  refine ⟨ps3.map fun p => Rat.divInt p ps3.sum, xs4, ?_, S, d4.mono (by omega)⟩
  refine run_op (fd := fd__law_shares) (G := (.lst xs4 :: G2) ++ [.lst ((ps3.map fun p => Rat.divInt p ps3.sum).map fr)]) rfl ha hd.pure rfl ⟨rfl, by show 2 ≤ 6; decide⟩ ?_ (pure_frs _) rfl d4.pure
  show (evSs _ b__law_shares [some (.obj 0), some (.int 8), none, none, none, none] [.lst xs]).res = _
  have st1 : evS (run fs m) (.asg (.nm 2) (.bin .Add (.con (.int 2)) (.call i__law_roll (.cons (.var 0) (.cons (.bin .Sub (.var 1) (.con (.int 1))) .nil))))) [some (.obj 0), some (.int 8), none, none, none, none] [.lst xs] = .nx [some (.obj 0), some (.int 8), some (.int k), none, none, none] [.lst xs1] := by
    rw [evS_asg, evE_bin, evE_con, bind_ok, a1, bind_ok, b_add, hk]
    rfl
  have st2 : evS (run fs m) (.asg (.nm 3) (.lc (.bin .Add (.con (.int 1)) (.call i__law_roll (.cons (.var 0) (.cons (.con (.int 9)) .nil)))) (.nm 4) (.rng1 (.var 2)) [4])) [some (.obj 0), some (.int 8), some (.int k), none, none, none] [.lst xs1] = .nx [some (.obj 0), some (.int 8), some (.int k), some (.obj 1), none, none] [.lst xs2, .lst (ps.map D.int)] := by
    rw [evS_asg, b1]
    rfl
  unfold b__law_shares
  rw [evSs_cons, st1, next_nx, evSs_cons, st2, next_nx, evSs_cons, st3, next_nx, evSs_cons, st4, next_nx, evSs_cons, evS_ret, evE_blt, evEs_cons, lc, lz]
  simp only [bind_ok, evEs_nil]
  rw [bl_tuple_o (xs := (ps3.map fun p => Rat.divInt p ps3.sum).map fr) (by simp)]
  rfl
end
end K58
end
section
set_option Elab.async false
set_option linter.all false
set_option maxRecDepth 100000
set_option maxHeartbeats 1000000
set_option exponentiation.threshold 20000
/-! K58v: rolled rows. -/
namespace K58
open PySem Mi
section
variable {n : Nat} {M : Mem} {p q : Rat} {qs : List Rat} {r : List Nat}
theorem roll_G {m c : Nat} {t : Int} {xs : List D} {G : Mem} {ρ : Mi.Env} {e : E} (hm : 1 ≤ m) (h0 : ρ[0]? = some (some (.obj 0))) (he : evE (run fs m) e ρ (.lst xs :: G) = .ok (.int t) (.lst xs :: G)) (hd : Dice c xs) (hc : c ≤ 2 ^ 901) (h1 : 0 < t) (h2 : t ≤ 1000) :
    ∃ r xs', evE (run fs m) (.call i__law_roll (.cons (.var 0) (.cons e .nil))) ρ (.lst xs :: G) = .ok (.int r) (.lst xs' :: G) ∧ 0 ≤ r ∧ r < t ∧ Dice (c + 1) xs' := by
  obtain ⟨r, xs', a1, a2, a3, a4⟩ := roll_e (F := run fs m) (M := .lst xs :: G) (hR hm _ 0 _ _ _ rfl hd (Nat.lt_of_le_of_lt hc (by decide +kernel)) h1 (Int.lt_of_le_of_lt h2 (by decide +kernel))) h0 he
  exact ⟨r, xs', a1, a2, a3, a4⟩
theorem b_tup {xs ys : List D} (h : xs.length + ys.length ≤ LIM) : binop .Add (.tup xs) (.tup ys) M = .ok (.tup (xs ++ ys)) M := if_pos ⟨rfl, h⟩
theorem fr_get {i : Nat} {qs : List Rat} (h : i < qs.length) : (qs.map fr)[i]? = some (fr qs[i]) := by rw [List.getElem?_map, List.getElem?_eq_getElem h]; rfl
theorem s_row {a c L : Nat} {xs : List D} (h : 6 ≤ n) (S : Shares qs) (hL : L ≤ 60) (ha : M[a]? = some (.lst xs)) (hd : Dice c xs) (hc : c ≤ 2 ^ 900) : ∃ r xs', run fs n i__law_row [.obj a, shD qs, .int (L : Nat)] M = .ok (rowD r) (M.set a (.lst xs')) ∧ Row qs.length r ∧ Dice (c + 120) xs' := by
  obtain ⟨m, rfl, hm⟩ := lev h
  have h2 := S.l2
  have h8 := S.l8
  have hLIM : LIM = 16777216 := rfl
  have big : ∀ k : Nat, k ≤ 200 → c + k ≤ 2 ^ 901 := fun k hk => Nat.le_trans (Nat.add_le_add hc hk) (by decide +kernel)
  obtain ⟨ρ', M', e1, r', xs', G', o4, o5, o6, o7, e2, e3, e4, e5, e6⟩ := fr_rule (F := run fs m) (t := .nm 4) (it := .rng1 (.var 2)) (b := (.cons (.asg (.nm 5) (.call i__law_sp_offs (.cons (.var 1) (.cons (.var 3) (.cons (.var 4) .nil))))) (.cons (.asg (.nm 6) (.con (.int 0))) (.cons (.fr (.nm 7) (.rng2 (.con (.int 1)) (.blt .len (.cons (.var 1) .nil))) (.cons (.asg (.nm 6) (.ite (.tst (.call i__law_fr_less (.cons (.idx (.var 5) (.var 7)) (.cons (.idx (.var 5) (.var 6)) .nil)))) (.var 7) (.var 6))) .nil)) (.cons (.asg (.nm 3) (.bin .Add (.var 3) (.tup (.cons (.ite (.cmp .Gt (.call i__law_roll (.cons (.var 0) (.cons (.con (.int 4)) .nil))) (.con (.int 0))) (.var 6) (.call i__law_roll (.cons (.var 0) (.cons (.blt .len (.cons (.var 1) .nil)) .nil)))) .nil)))) .nil))))) (ρ := [some (.obj 0), some (shD qs), some (.int L), some (rowD []), none, none, none, none]) (M := [.lst xs]) (M1 := [.lst xs]) (sr := .rng 0 L) (ys := rngL 0 L)
    (fun i ρ M => ∃ r xs G o4 o5 o6 o7, ρ = [some (.obj 0), some (shD qs), some (.int L), some (rowD r), o4, o5, o6, o7] ∧ M = .lst xs :: G ∧ Row qs.length r ∧ r.length = i ∧ Dice (c + 2 * i) xs)
    (by
      have := rng1_nat (k := L) (by omega)
      simp only [evI_rng1, evE_var, List.getElem?_cons_succ, List.getElem?_cons_zero, getV_some, bind_ok, this, ofOpt_some])
    (fun i ρ M hM h => at_rng) (by rw [rngL_len]; omega) ⟨[], xs, [], none, none, none, none, rfl, rfl, ⟨Nat.zero_le _, fun x hx => (nomatch hx)⟩, rfl, hd⟩ (fun i d ρ M hd' ⟨r, xs, G, o4, o5, o6, o7, hρ, hM, R, hr, hd⟩ => by
      obtain ⟨hi, rfl⟩ := rngL_get hd'
      subst hM hρ
      rw [Int.zero_add]
      have a2 := s_sp_offs (n := m) (M := .lst xs :: G) hm S R (k := i) (by omega)
      rw [← hr, List.take_length] at a2
      have g2 : ((.lst xs :: G : Mem) ++ [.lst ((offs qs r).map fr)])[(.lst xs :: G : Mem).length]? = some (.lst ((offs qs r).map fr)) := by simp
      have hb := offs_bd S R.len
      have hol : (offs qs r).length = qs.length := offs_len
      generalize hM2 : (.lst xs :: G : Mem) ++ [.lst ((offs qs r).map fr)] = M2 at a2 g2
      generalize hb' : (.lst xs :: G : Mem).length = b at a2 g2
      obtain ⟨ρ2, M3, b1, b2, j, o, b3, b4⟩ := fr_rule (F := run fs m) (t := .nm 7) (it := .rng2 (.con (.int 1)) (.blt .len (.cons (.var 1) .nil))) (b := (.cons (.asg (.nm 6) (.ite (.tst (.call i__law_fr_less (.cons (.idx (.var 5) (.var 7)) (.cons (.idx (.var 5) (.var 6)) .nil)))) (.var 7) (.var 6))) .nil)) (ρ := [some (.obj 0), some (shD qs), some (.int L), some (rowD r), some (.int (r.length : Nat)), some (.obj b), some (.int 0), o7]) (M := M2) (M1 := M2) (sr := .rng 1 (qs.length - 1)) (ys := rngL 1 (qs.length - 1))
        (fun _ ρ M' => M' = M2 ∧ ∃ (j : Nat) (o : Option D), j < qs.length ∧ ρ = [some (.obj 0), some (shD qs), some (.int L), some (rowD r), some (.int (r.length : Nat)), some (.obj b), some (.int j), o])
        (by
          have := rng2_nat (j := 1) (k := qs.length) (by omega) (by omega)
          simp only [evI_rng2, evE_con, evE_blt, evEs_cons, evEs_nil, evE_var, List.getElem?_cons_succ, List.getElem?_cons_zero, getV_some, bind_ok, bl_len, List.length_map]
          rw [show (1 : Int) = ((1 : Nat) : Int) from rfl, this]
          rfl)
        (fun _ ρ M _ h => at_rng) (by rw [rngL_len]; omega) ⟨rfl, 0, o7, by omega, rfl⟩ (fun i d ρ M' hd ⟨hM, j, o, hj, hρ⟩ => by
          replace hM := hM.symm
          subst hM hρ
          obtain ⟨hi, rfl⟩ := rngL_get hd
          have hi2 : 1 + i < (offs qs r).length := by omega
          have hj2 : j < (offs qs r).length := by omega
          rw [show (1 : Int) + (i : Int) = ((1 + i : Nat) : Int) by omega]
          have i1 := ix_lst g2 (fr_get hi2)
          have i2 := ix_lst g2 (fr_get hj2)
          have l1 := s_lless (n := m) (M := M2) (by omega) (show 31 ≤ 3000 by decide) (hb _ (List.getElem_mem hi2)) (hb _ (List.getElem_mem hj2))
          have en : evE (run fs m) (.ite (.tst (.call i__law_fr_less (.cons (.idx (.var 5) (.var 7)) (.cons (.idx (.var 5) (.var 6)) .nil)))) (.var 7) (.var 6)) [some (.obj 0), some (shD qs), some (.int L), some (rowD r), some (.int (r.length : Nat)), some (.obj b), some (.int j), some (.int ((1 + i : Nat) : Int))] M2 = .ok (.int ((if (offs qs r)[1 + i] < (offs qs r)[j] then 1 + i else j : Nat) : Int)) M2 := by
            simp only [evE_ite, evE_tst, evE_call, evEs_cons, evEs_nil, evE_idx, evE_var, List.getElem?_cons_succ, List.getElem?_cons_zero, getV_some, bind_ok, i1, i2, l1, truth_bl, Option.map_some, ofOpt_some, test_bl]
            by_cases hlt : (offs qs r)[1 + i] < (offs qs r)[j]
            · rw [if_pos (decide_eq_true hlt), if_pos hlt]
            · rw [if_neg (by simpa using hlt), if_neg hlt]
          refine ⟨[some (.obj 0), some (shD qs), some (.int L), some (rowD r), some (.int (r.length : Nat)), some (.obj b), some (.int j), some (.int ((1 + i : Nat) : Int))], _, _, by simp, .inl ?_, rfl, (if (offs qs r)[1 + i] < (offs qs r)[j] then 1 + i else j), some (.int ((1 + i : Nat) : Int)), ?_, rfl⟩
          · rw [evSs_cons, evS_asg, en, out_ok]
            simp
          · split <;> omega)
      subst b2 b4 hM2
      obtain ⟨r1, xs1, c1, c2, c3, c4⟩ := roll_G (m := m) (G := G ++ [.lst ((offs qs r).map fr)]) (ρ := [some (.obj 0), some (shD qs), some (.int L), some (rowD r), some (.int (r.length : Nat)), some (.obj b), some (.int j), o]) (t := 4) (e := .con (.int 4)) (by omega) rfl rfl hd (by have := big (2 * i) (by omega); omega) (by decide) (by decide)
      obtain ⟨r2, xs2, d1, d2, d3, d4⟩ := roll_G (m := m) (G := G ++ [.lst ((offs qs r).map fr)]) (ρ := [some (.obj 0), some (shD qs), some (.int L), some (rowD r), some (.int (r.length : Nat)), some (.obj b), some (.int j), o]) (t := (qs.length : Nat)) (e := .blt .len (.cons (.var 1) .nil)) (by omega) rfl (by simp) c4 (by have := big (2 * i + 1) (by omega); omega) (by omega) (by omega)
      obtain ⟨v, xs3, v1, v2, v3⟩ : ∃ (v : Nat) (xs3 : List D), evE (run fs m) (.ite (.cmp .Gt (.call i__law_roll (.cons (.var 0) (.cons (.con (.int 4)) .nil))) (.con (.int 0))) (.var 6) (.call i__law_roll (.cons (.var 0) (.cons (.blt .len (.cons (.var 1) .nil)) .nil)))) [some (.obj 0), some (shD qs), some (.int L), some (rowD r), some (.int (r.length : Nat)), some (.obj b), some (.int j), o] (.lst xs :: (G ++ [.lst ((offs qs r).map fr)])) = .ok (.int v) (.lst xs3 :: (G ++ [.lst ((offs qs r).map fr)])) ∧ v < qs.length ∧ Dice (c + 2 * (i + 1)) xs3 := by
        simp only [evE_ite, evE_cmp, c1, bind_ok, evE_con, c_gt, test_bl]
        by_cases hp : 0 < r1
        · simp only [hp, decide_true, if_true]
          exact ⟨j, xs1, rfl, b3, c4.mono (by omega)⟩
        · simp only [hp, decide_false, Bool.false_eq_true, if_false, d1]
          exact ⟨r2.toNat, xs2, by rw [Int.toNat_of_nonneg d2], by omega, d4.mono (by omega)⟩
      refine ⟨[some (.obj 0), some (shD qs), some (.int L), some (rowD r), some (.int (r.length : Nat)), o5, o6, o7], [some (.obj 0), some (shD qs), some (.int L), some (rowD (r ++ [v])), some (.int (r.length : Nat)), some (.obj b), some (.int j), o], _, by rw [hr]; simp, .inl ?_, r ++ [v], xs3, G ++ [.lst ((offs qs r).map fr)], some (.int (r.length : Nat)), some (.obj b), some (.int j), o, rfl, rfl, ⟨by rw [List.length_append, hr]; show i + 1 ≤ 60; omega, fun x hx => ?_⟩, by simp [hr], v3⟩
      · have t1 := b_tup (M := .lst xs3 :: (G ++ [.lst ((offs qs r).map fr)])) (xs := r.map fun x => D.int (x : Nat)) (ys := [.int v]) (by rw [List.length_map]; show r.length + 1 ≤ LIM; omega)
        have s1 : evS (run fs m) (.asg (.nm 5) (.call i__law_sp_offs (.cons (.var 1) (.cons (.var 3) (.cons (.var 4) .nil))))) [some (.obj 0), some (shD qs), some (.int L), some (rowD r), some (.int (r.length : Nat)), o5, o6, o7] (.lst xs :: G) = .nx [some (.obj 0), some (shD qs), some (.int L), some (rowD r), some (.int (r.length : Nat)), some (.obj b), o6, o7] (.lst xs :: G ++ [.lst ((offs qs r).map fr)]) := by
          simp only [evS_asg, evE_call, evEs_cons, evEs_nil, evE_var, List.getElem?_cons_succ, List.getElem?_cons_zero, getV_some, bind_ok, a2, out_ok]
          rfl
        have s2 : evS (run fs m) (.asg (.nm 6) (.con (.int 0))) [some (.obj 0), some (shD qs), some (.int L), some (rowD r), some (.int (r.length : Nat)), some (.obj b), o6, o7] (.lst xs :: G ++ [.lst ((offs qs r).map fr)]) = .nx [some (.obj 0), some (shD qs), some (.int L), some (rowD r), some (.int (r.length : Nat)), some (.obj b), some (.int 0), o7] (.lst xs :: G ++ [.lst ((offs qs r).map fr)]) := rfl
        rw [evSs_cons, s1, next_nx, evSs_cons, s2, next_nx, evSs_cons, b1, next_nx, evSs_cons, evS_asg, evE_bin, evE_var]
        simp only [List.getElem?_cons_succ, List.getElem?_cons_zero, getV_some, bind_ok, evE_tup, evEs_cons, evEs_nil, List.cons_append, v1]
        rw [if_pos (by show 1 ≤ LIM; omega), bind_ok, t1]
        simp
      · rcases List.mem_append.mp hx with hx | hx
        · exact R.lt x hx
        · rw [List.mem_singleton.mp hx]
          exact v2)
  rw [rngL_len] at e5 e6
  subst e2 e3
  refine ⟨r', xs', ?_, e4, e6.mono (by omega)⟩
  refine run_op (fd := fd__law_row) (G := .lst xs' :: G') rfl ha hd.pure (by simp [pure_frs]) ⟨rfl, by show 3 ≤ 8; decide⟩ ?_ (pure_row _) rfl e6.pure
  show (evSs _ b__law_row [some (.obj 0), some (shD qs), some (.int L), none, none, none, none, none] [.lst xs]).res = _
  have s0 : evS (run fs m) (.asg (.nm 3) (.tup .nil)) [some (.obj 0), some (shD qs), some (.int L), none, none, none, none, none] [.lst xs] = .nx [some (.obj 0), some (shD qs), some (.int L), some (rowD []), none, none, none, none] [.lst xs] := by
    simp
  unfold b__law_row
  rw [evSs_cons, s0, next_nx, evSs_cons, e1]
  simp
end
end K58
end
section
set_option Elab.async false
set_option linter.all false
set_option maxRecDepth 100000
set_option maxHeartbeats 1000000
set_option exponentiation.threshold 20000
/-! K58w: printed data; what a right row keeps, in plain numbers. -/
namespace Mi
open PySem
theorem repr_ok {x : D} {M : Mem} {p : PyData} (h : py M DEEP x = some p) (h1 : p.showable = true) (h2 : p.hasDict = false) (h3 : p.leavesShort 13 = true) (h4 : p.weight ≤ 2 ^ 20) : blt .repr [x] M = .ok (.str p.shown) M := by
  have hf : p.shown.length ≤ LIM := PyData.shown_fits (B := 13) (by decide) (by decide) h3 h4
  show ofOpt (reprO x M) M = _
  unfold reprO
  rw [h]
  show ofOpt (if p.showable = true ∧ p.shown.length ≤ LIM ∧ p.hasDict = false then some (D.str p.shown) else none) M = _
  rw [if_pos ⟨h1, hf, h2⟩]
  rfl
theorem repr_bl {b : Bool} {M : Mem} : blt .repr [.bl b] M = .ok (.str (PyData.bool b).shown) M := repr_ok (p := .bool b) rfl rfl rfl rfl (by cases b <;> decide)
theorem int_short {i : Nat} (h : i < 1000) : (PyData.int i).leavesShort 13 = true ∧ (PyData.int i).showable = true := by
  have e := int_text_length_le10 (k := 3) (a := (i : Int)) (by decide) (by rw [Int.natAbs_natCast]; exact h)
  constructor
  · simp only [PyData.leavesShort, PyData.shown]
    refine decide_eq_true ?_
    show (Str.ofString (toString (i : Int))).length ≤ 13
    rw [ofString_length]
    omega
  · simp only [PyData.showable]
    refine decide_eq_true ?_
    rw [Int.natAbs_natCast]
    have : i.log2 ≤ i := Nat.log2_le_self i
    omega
theorem py_nats {M : Mem} : ∀ ns : List Nat, (ns.map fun x => D.int (x : Nat)).mapM (py M 8) = some (ns.map fun x => PyData.int (x : Nat))
  | ns => mapM_map (f := fun x : Nat => D.int (x : Nat)) (g := py M 8) (h := fun x : Nat => PyData.int (x : Nat)) (fun _ => rfl) ns
theorem all_short : ∀ {ns : List Nat}, (∀ x ∈ ns, x < 1000) → PyData.leavesShortAll 13 (ns.map fun x => PyData.int (x : Nat)) = true ∧ PyData.showableAll (ns.map fun x => PyData.int (x : Nat)) = true ∧ PyData.hasDictAll (ns.map fun x => PyData.int (x : Nat)) = false ∧ PyData.weightAll (ns.map fun x => PyData.int (x : Nat)) ≤ 1002 * ns.length
  | [], _ => ⟨rfl, rfl, rfl, Nat.le_refl _⟩
  | x :: ns, h => by
    obtain ⟨h1, h2, h3, h4⟩ := all_short fun y hy => h y (List.mem_cons_of_mem _ hy)
    obtain ⟨h5, h6⟩ := int_short (h x List.mem_cons_self)
    simp only [List.map_cons, PyData.leavesShortAll, PyData.showableAll, PyData.hasDictAll, PyData.weightAll, h1, h2, h3, h5, h6, Bool.and_self, PyData.hasDict, Bool.or_self, List.length_cons, PyData.weight, true_and, Int.natAbs_natCast]
    have hx := h x List.mem_cons_self
    have : x.log2 ≤ x := Nat.log2_le_self x
    split <;> omega
theorem repr_nats {ns : List Nat} {M : Mem} (h : ∀ x ∈ ns, x < 1000) (hl : ns.length ≤ 1000) : blt .repr [.tup (ns.map fun x => D.int (x : Nat))] M = .ok (.str (PyData.tuple (ns.map fun x => PyData.int (x : Nat))).shown) M := by
  obtain ⟨h1, h2, h3, h4⟩ := all_short h
  refine repr_ok ?_ (by simpa only [PyData.showable] using h2) (by simpa only [PyData.hasDict] using h3) (by simpa only [PyData.leavesShort] using h1) (by simp only [PyData.weight]; exact Nat.le_trans h4 (Nat.le_trans (Nat.mul_le_mul_left 1002 hl) (by decide)))
  show ((ns.map fun x => D.int (x : Nat)).mapM (py M 8)).map PyData.tuple = _
  rw [py_nats]
  rfl
end Mi
namespace K58
open PySem Mi
section
variable {n : Nat} {M : Mem} {p q : Rat} {qs : List Rat} {r : List Nat}
/-! ### the offs of one length sum to none -/
def sm : List Rat → Rat
  | [] => 0
  | a :: l => a + sm l
theorem foldl_sm : ∀ (l : List Rat) (a : Rat), l.foldl (· + ·) a = a + sm l
  | [], a => (Rat.add_zero a).symm
  | b :: l, a => by rw [List.foldl_cons, foldl_sm l, Rat.add_assoc]; rfl
theorem sm_offs (f : Nat → Nat) (L : Nat) : ∀ (qs : List Rat) (k : Nat), sm ((qs.zipIdx k).map fun d => offA d.1 (f d.2) L) = (((((List.range' k qs.length).map fun i => (f i : Int)).sum : Int) : Rat)) - ((L : Int) : Rat) * sm qs
  | [], k => by
    show (0 : Rat) = ((0 : Int) : Rat) - _ * 0
    rw [Rat.mul_zero, Rat.intCast_zero, Rat.sub_self]
  | q :: qs, k => by
    rw [List.zipIdx_cons, List.map_cons]
    show offA q (f k) L + sm ((qs.zipIdx (k + 1)).map fun d => offA d.1 (f d.2) L) = _
    rw [sm_offs f L qs (k + 1), List.length_cons, List.range'_succ, List.map_cons, List.sum_cons, Rat.intCast_add]
    show _ = _ - _ * (q + sm qs)
    unfold offA
    grind
theorem offs_total (S : Shares qs) (R : Row qs.length r) : (offs qs r).foldl (· + ·) 0 = 0 := by
  rw [foldl_sm, Rat.zero_add]
  have e : sm qs = 1 := by
    have := S.sum
    unfold sumR at this
    rw [foldl_sm, Rat.zero_add] at this
    exact this
  unfold offs
  rw [sm_offs (fun i => r.count i) r.length qs 0, e, ← List.range_eq_range', sum_cnt R.lt, Rat.mul_one, Rat.sub_self]
/-! ### the far off of a row -/
theorem absR_neg : absR (-q) = absR q := by
  unfold absR
  rw [Rat.neg_num]
  by_cases h : q.num < 0
  · rw [if_pos h, if_neg (by omega)]
  · by_cases h0 : q.num = 0
    · have : q = 0 := Rat.num_eq_zero.mp h0
      subst this
      rfl
    · rw [if_neg h, if_pos (by omega), Rat.neg_neg]
theorem up_le {b : Rat} : b ≤ up b q ∧ absR q ≤ up b q := by
  unfold up
  split
  · next h => exact ⟨Rat.le_of_lt h, Rat.le_refl⟩
  · next h => exact ⟨Rat.le_refl, Rat.not_lt.mp h⟩
theorem up_is {b : Rat} : up b q = b ∨ up b q = absR q := by
  unfold up
  split
  · exact .inr rfl
  · exact .inl rfl
theorem mx_le : ∀ {ps : List Rat} {b : Rat}, b ≤ mx b ps ∧ ∀ q ∈ ps, absR q ≤ mx b ps
  | [], b => ⟨Rat.le_refl, fun q hq => (nomatch hq)⟩
  | p :: ps, b => by
    obtain ⟨h1, h2⟩ := mx_le (ps := ps) (b := up b p)
    refine ⟨Rat.le_trans up_le.1 h1, fun q hq => ?_⟩
    rcases List.mem_cons.mp hq with rfl | hq
    · exact Rat.le_trans up_le.2 h1
    · exact h2 q hq
theorem mx_is : ∀ {ps : List Rat} {b : Rat}, mx b ps = b ∨ ∃ q ∈ ps, mx b ps = absR q
  | [], b => .inl rfl
  | p :: ps, b => by
    rcases mx_is (ps := ps) (b := up b p) with h | ⟨q, hq, h⟩
    · rcases up_is (q := p) (b := b) with h2 | h2
      · exact .inl (h.trans h2)
      · exact .inr ⟨p, List.mem_cons_self, h.trans h2⟩
    · exact .inr ⟨q, List.mem_cons_of_mem _ hq, h⟩
theorem bst_le : ∀ {i : Nat}, 0 ≤ bst qs r i ∧ ∀ k, 1 ≤ k → k ≤ i → ∀ q ∈ offs qs (r.take k), absR q ≤ bst qs r i
  | 0 => ⟨Rat.le_refl, fun k h1 h2 => by omega⟩
  | i + 1 => by
    obtain ⟨h1, h2⟩ := bst_le (i := i)
    obtain ⟨h3, h4⟩ := mx_le (ps := offs qs (r.take (i + 1))) (b := bst qs r i)
    refine ⟨Rat.le_trans h1 h3, fun k k1 k2 q hq => ?_⟩
    rcases Nat.lt_or_ge i k with hk | hk
    · have : k = i + 1 := by omega
      subst this
      exact h4 q hq
    · exact Rat.le_trans (h2 k k1 hk q hq) h3
theorem bst_is : ∀ {i : Nat}, bst qs r i = 0 ∨ ∃ k, 1 ≤ k ∧ k ≤ i ∧ ∃ q ∈ offs qs (r.take k), bst qs r i = absR q
  | 0 => .inl rfl
  | i + 1 => by
    rcases mx_is (ps := offs qs (r.take (i + 1))) (b := bst qs r i) with h | ⟨q, hq, h⟩
    · rcases bst_is (i := i) with h2 | ⟨k, k1, k2, q, hq, h2⟩
      · exact .inl (h.trans h2)
      · exact .inr ⟨k, k1, by omega, q, hq, h.trans h2⟩
    · exact .inr ⟨i + 1, by omega, by omega, q, hq, h⟩
theorem absR_nonneg : 0 ≤ absR q := by
  unfold absR
  split
  · next h =>
    rw [← Rat.num_nonneg, Rat.neg_num]
    omega
  · next h =>
    rw [← Rat.num_nonneg]
    omega
theorem bst_all (S : Shares qs) {k : Nat} (hk : k ≤ r.length) (hp : p ∈ offs qs (r.take k)) : absR p ≤ bst qs r r.length := by
  rcases Nat.eq_zero_or_pos k with rfl | h0
  · obtain ⟨i, q, _, rfl⟩ := offs_mem hp
    rw [List.take_zero]
    show absR (offA q 0 0) ≤ _
    rw [off_zero, absR_zero]
    exact bst_le.1
  · exact bst_le.2 k h0 hk p hp
theorem rev_le (S : Shares qs) (hz : ∀ p ∈ offs qs r, p = 0) : bst qs r.reverse r.reverse.length ≤ bst qs r r.length := by
  rcases bst_is (qs := qs) (r := r.reverse) (i := r.reverse.length) with h | ⟨k, k1, k2, p, hp, h⟩
  · rw [h]
    exact bst_le.1
  · rw [h]
    rw [List.length_reverse] at k2
    obtain ⟨i, q, hq, rfl⟩ := offs_mem hp
    have z := hz _ (List.mem_of_getElem? (offs_at (r := r) hq))
    have m := List.mem_of_getElem? (offs_at (r := r.take (r.length - k)) hq)
    have b := bst_all (r := r) S (Nat.sub_le _ _) m
    have c1 : (r.reverse.take k).count i + (r.take (r.length - k)).count i = r.count i := by
      have e : r.reverse.take k = (r.drop (r.length - k)).reverse := by rw [List.reverse_drop, show r.length - (r.length - k) = k by omega]
      rw [e, List.count_reverse, Nat.add_comm, ← List.count_append, List.take_append_drop]
    rw [List.length_take, Nat.min_eq_left (Nat.sub_le _ _)] at b
    rw [List.length_take, List.length_reverse, Nat.min_eq_left k2]
    have e : offA q ((r.reverse.take k).count i) k = - offA q ((r.take (r.length - k)).count i) (r.length - k) := by
      unfold offA at z ⊢
      have c2 : (((r.reverse.take k).count i : Nat) : Int) = (r.count i : Int) - ((r.take (r.length - k)).count i : Int) := by omega
      have c3 : ((r.length - k : Nat) : Int) = (r.length : Int) - (k : Int) := by omega
      rw [c2, c3, Rat.intCast_sub, Rat.intCast_sub]
      grind
    rw [e, absR_neg]
    exact b
theorem rev_zero (hz : ∀ p ∈ offs qs r, p = 0) : ∀ p ∈ offs qs r.reverse, p = 0 := fun p hp => by
  obtain ⟨i, q, hq, rfl⟩ := offs_mem hp
  have z := hz _ (List.mem_of_getElem? (offs_at (r := r) hq))
  rw [List.count_reverse, List.length_reverse]
  exact z
theorem rev_eq (S : Shares qs) (hz : ∀ p ∈ offs qs r, p = 0) : bst qs r.reverse r.reverse.length = bst qs r r.length := by
  refine Rat.le_antisymm (rev_le S hz) ?_
  have := rev_le (r := r.reverse) S (rev_zero hz)
  rwa [List.reverse_reverse] at this
theorem Row.rev {k : Nat} (R : Row k r) : Row k r.reverse := ⟨by rw [List.length_reverse]; exact R.len, fun x hx => R.lt x (List.mem_reverse.mp hx)⟩
end
end K58
end
section
set_option Elab.async false
set_option linter.all false
set_option maxRecDepth 100000
set_option maxHeartbeats 1000000
set_option exponentiation.threshold 20000
/-! K58x: the steps of a right row, first half. -/
namespace K58
open PySem Mi
abbrev r1 : S := .asg (.nm 1) (.call i__law_shares (.cons (.var 0) (.cons (.con (.int 8)) .nil)))
abbrev r2 : S := .asg (.nm 2) (.call i__law_row (.cons (.var 0) (.cons (.var 1) (.cons (.call i__law_roll (.cons (.var 0) (.cons (.idx (.lst (.cons (.con (.int 5)) (.cons (.con (.int 12)) (.cons (.con (.int 30)) .nil)))) (.call i__law_roll (.cons (.var 0) (.cons (.con (.int 3)) .nil)))) .nil))) .nil))))
abbrev r3 : S := .ife (.cmp .Eq (.call i__law_roll (.cons (.var 0) (.cons (.con (.int 9)) .nil))) (.con (.int 0))) (.cons (.asg (.nm 2) (.bin .Mult (.tup (.cons (.call i__law_roll (.cons (.var 0) (.cons (.blt .len (.cons (.var 1) .nil)) .nil))) .nil)) (.con (.int 60)))) .nil) .nil
abbrev r4 : S := .ife (.cmp .NotEq (.blt .repr (.cons (.call i_counts_of (.cons (.var 1) (.cons (.var 2) .nil))) .nil)) (.blt .repr (.cons (.blt .tuple (.cons (.lc (.mth .count (.var 2) (.cons (.var 11) .nil)) (.nm 11) (.rng1 (.blt .len (.cons (.var 1) .nil))) [11]) .nil)) .nil))) (.cons (.ret (.con (.bl false))) .nil) .nil
abbrev r5 : S := .fr (.nm 3) (.val (.tup (.cons (.con (.int 0)) (.cons (.blt .len (.cons (.var 2) .nil)) (.cons (.call i__law_roll (.cons (.var 0) (.cons (.bin .Add (.blt .len (.cons (.var 2) .nil)) (.con (.int 1))) .nil))) .nil))))) (.cons (.asg (.nm 4) (.call i__law_sp_offs (.cons (.var 1) (.cons (.var 2) (.cons (.var 3) .nil))))) (.cons (.ife (.cmp .NotEq (.call i_off_at (.cons (.var 1) (.cons (.var 2) (.cons (.var 3) .nil)))) (.blt .tuple (.cons (.var 4) .nil))) (.cons (.ret (.con (.bl false))) .nil) .nil) (.cons (.asg (.nm 5) (.tup (.cons (.con (.int 0)) (.cons (.con (.int 1)) .nil)))) (.cons (.fr (.nm 6) (.val (.var 4)) (.cons (.asg (.nm 5) (.call i__law_fr_plus (.cons (.var 5) (.cons (.var 6) .nil)))) .nil)) (.cons (.ife (.cmp .NotEq (.var 5) (.tup (.cons (.con (.int 0)) (.cons (.con (.int 1)) .nil)))) (.cons (.ret (.con (.bl false))) .nil) .nil) .nil)))))
abbrev r6 : S := .asg (.nm 7) (.call i__law_sp_off (.cons (.var 1) (.cons (.var 2) .nil)))
abbrev r7 : S := .asg (.nm 8) (.not (.tst (.call i__law_fr_less (.cons (.call i__law_sp_bound (.cons (.var 1) .nil)) (.cons (.var 7) .nil)))))
abbrev r8 : S := .ife (.or (.cmp .NotEq (.call i_off_of (.cons (.var 1) (.cons (.var 2) .nil))) (.var 7)) (.cmp .NotEq (.blt .repr (.cons (.call i_is_spread (.cons (.var 1) (.cons (.var 2) .nil))) .nil)) (.blt .repr (.cons (.var 8) .nil)))) (.cons (.ret (.con (.bl false))) .nil) .nil
abbrev r9 : S := .asg (.nm 9) (.lst (.cons (.var 7) (.cons (.call i__law_fr_plus (.cons (.var 7) (.cons (.tup (.cons (.con (.int 1)) (.cons (.con (.int 1000)) .nil))) .nil))) (.cons (.tup (.cons (.con (.int 0)) (.cons (.con (.int 1)) .nil))) (.cons (.tup (.cons (.con (.int 1)) (.cons (.con (.int 2)) .nil))) (.cons (.tup (.cons (.con (.int 1)) (.cons (.con (.int 1)) .nil))) .nil))))))
abbrev r10 : S := .ife (.cmp .NotEq (.var 7) (.tup (.cons (.con (.int 0)) (.cons (.con (.int 1)) .nil)))) (.cons (.exp (.mth .append (.var 9) (.cons (.call i__law_fraction (.cons (.bin .Sub (.bin .Mult (.idx (.var 7) (.con (.int 0))) (.con (.int 1000))) (.con (.int 1))) (.cons (.bin .Mult (.idx (.var 7) (.con (.int 1))) (.con (.int 1000))) .nil))) .nil))) .nil) .nil
abbrev r11 : S := .fr (.nm 10) (.val (.var 9)) (.cons (.ife (.cmp .NotEq (.blt .repr (.cons (.call i_keeps_within (.cons (.var 1) (.cons (.var 2) (.cons (.var 10) .nil)))) .nil)) (.blt .repr (.cons (.not (.tst (.call i__law_fr_less (.cons (.var 10) (.cons (.var 7) .nil))))) .nil))) (.cons (.ret (.con (.bl false))) .nil) .nil) .nil)
abbrev r12 : S := .ife (.cmp .Eq (.lci (.var 6) (.nm 6) (.val (.call i__law_sp_offs (.cons (.var 1) (.cons (.var 2) (.cons (.blt .len (.cons (.var 2) .nil)) .nil))))) (.cmp .NotEq (.var 6) (.tup (.cons (.con (.int 0)) (.cons (.con (.int 1)) .nil)))) [6]) (.lst .nil)) (.cons (.ret (.cmp .Eq (.call i_off_of (.cons (.var 1) (.cons (.slc3 (.var 2) 2) .nil))) (.var 7))) .nil) .nil
abbrev r13 : S := .ret (.con (.bl true))
theorem right_is : b__law_right = .cons r1 (.cons r2 (.cons r3 (.cons r4 (.cons r5 (.cons r6 (.cons r7 (.cons r8 (.cons r9 (.cons r10 (.cons r11 (.cons r12 (.cons r13 .nil)))))))))))) := rfl
section
variable {n m c : Nat} {M G : Mem} {p q : Rat} {qs : List Rat} {r : List Nat} {xs : List D}
theorem lim : LIM = 16777216 := rfl
theorem roll_X {t : Int} {ρ : Mi.Env} {e : E} (hm : 1 ≤ m) (h0 : ρ[0]? = some (some (.obj 0))) (he : evE (run fs m) e ρ M = .ok (.int t) (.lst xs :: G)) (hd : Dice c xs) (hc : c ≤ 2 ^ 901) (h1 : 0 < t) (h2 : t ≤ 1000) :
    ∃ r xs', evE (run fs m) (.call i__law_roll (.cons (.var 0) (.cons e .nil))) ρ M = .ok (.int r) (.lst xs' :: G) ∧ 0 ≤ r ∧ r < t ∧ Dice (c + 1) xs' := by
  obtain ⟨r, xs', a1, a2, a3, a4⟩ := hR hm c 0 xs t (.lst xs :: G) rfl hd (Nat.lt_of_le_of_lt hc (by decide +kernel)) h1 (Int.lt_of_le_of_lt h2 (by decide +kernel))
  refine ⟨r, xs', ?_, a2, a3, a4⟩
  rw [evE_call, evEs_cons, evE_var, h0, getV_some, bind_ok, evEs_cons, he, bind_ok, evEs_nil, bind_ok, bind_ok, bind_ok, a1]
  rfl
theorem s1 (hm : 4 ≤ m) (hd : Dice c xs) (hc : c ≤ 2 ^ 900) : ∃ qs xs', evS (run fs m) r1 [some (.obj 0), none, none, none, none, none, none, none, none, none, none, none] (.lst xs :: G) = .nx [some (.obj 0), some (shD qs), none, none, none, none, none, none, none, none, none, none] (.lst xs' :: G) ∧ Shares qs ∧ Dice (c + 20) xs' := by
  obtain ⟨qs, xs', e1, e2, e3⟩ := s_shares (n := m) (M := .lst xs :: G) (a := 0) hm rfl hd hc
  refine ⟨qs, xs', ?_, e2, e3⟩
  simp only [evS_asg, evE_call, evEs_cons, evEs_nil, evE_var, evE_con, List.getElem?_cons_zero, getV_some, bind_ok, e1, out_ok]
  rfl
theorem s2 (hm : 6 ≤ m) (S : Shares qs) (hd : Dice c xs) (hc : c ≤ 2 ^ 899) : ∃ r xs' G', evS (run fs m) r2 [some (.obj 0), some (shD qs), none, none, none, none, none, none, none, none, none, none] (.lst xs :: G) = .nx [some (.obj 0), some (shD qs), some (rowD r), none, none, none, none, none, none, none, none, none] (.lst xs' :: G') ∧ Row qs.length r ∧ Dice (c + 122) xs' := by
  have big : ∀ k : Nat, k ≤ 200 → c + k ≤ 2 ^ 900 := fun k hk => Nat.le_trans (Nat.add_le_add hc hk) (by decide +kernel)
  have bigger : (2 : Nat) ^ 900 ≤ 2 ^ 901 := Nat.pow_le_pow_right (by decide) (by decide)
  obtain ⟨r1, xs1, a1, a2, a3, a4⟩ := roll_X (m := m) (ρ := [some (.obj 0), some (shD qs), none, none, none, none, none, none, none, none, none, none]) (e := .con (.int 3)) (M := .lst xs :: (G ++ [.lst [.int 5, .int 12, .int 30]])) (by omega) rfl rfl hd (Nat.le_trans (big 0 (by omega)) bigger) (by decide) (by decide)
  have g1 : (.lst xs1 :: (G ++ [.lst [.int 5, .int 12, .int 30]]) : Mem)[G.length + 1]? = some (.lst [.int 5, .int 12, .int 30]) := by simp
  obtain ⟨t, t1, t2, t3⟩ : ∃ t : Int, idxD (.obj (G.length + 1)) (.int r1) (.lst xs1 :: (G ++ [.lst [.int 5, .int 12, .int 30]])) = .ok (.int t) (.lst xs1 :: (G ++ [.lst [.int 5, .int 12, .int 30]])) ∧ 0 < t ∧ t ≤ 30 := by
    have : r1 = 0 ∨ r1 = 1 ∨ r1 = 2 := by omega
    rcases this with rfl | rfl | rfl
    · exact ⟨5, ix_lst (i := 0) g1 rfl, by decide, by decide⟩
    · exact ⟨12, ix_lst (i := 1) g1 rfl, by decide, by decide⟩
    · exact ⟨30, ix_lst (i := 2) g1 rfl, by decide, by decide⟩
  have el : evE (run fs m) (.lst (.cons (.con (.int 5)) (.cons (.con (.int 12)) (.cons (.con (.int 30)) .nil)))) [some (.obj 0), some (shD qs), none, none, none, none, none, none, none, none, none, none] (.lst xs :: G) = .ok (.obj (G.length + 1)) (.lst xs :: (G ++ [.lst [.int 5, .int 12, .int 30]])) := by
    simp [LIM, Mi.alloc]
  obtain ⟨L, xs2, b1, b2, b3, b4⟩ := roll_X (m := m) (M := .lst xs :: G) (ρ := [some (.obj 0), some (shD qs), none, none, none, none, none, none, none, none, none, none]) (e := .idx (.lst (.cons (.con (.int 5)) (.cons (.con (.int 12)) (.cons (.con (.int 30)) .nil)))) (.call i__law_roll (.cons (.var 0) (.cons (.con (.int 3)) .nil)))) (by omega) rfl (by rw [evE_idx, el, bind_ok, a1, bind_ok, t1]) a4 (Nat.le_trans (big 1 (by omega)) bigger) t2 (by omega)
  obtain ⟨r, xs3, c1, c2, c3⟩ := s_row (n := m) (qs := qs) (L := L.toNat) (M := .lst xs2 :: (G ++ [.lst [.int 5, .int 12, .int 30]])) (a := 0) hm S (by omega) rfl b4 (big 2 (by omega))
  rw [Int.toNat_of_nonneg b2] at c1
  refine ⟨r, xs3, G ++ [.lst [.int 5, .int 12, .int 30]], ?_, c2, c3.mono (by omega)⟩
  rw [evS_asg, evE_call, evEs_cons, evE_var, List.getElem?_cons_zero, getV_some, bind_ok, evEs_cons, evE_var, List.getElem?_cons_succ, List.getElem?_cons_zero, getV_some, bind_ok, evEs_cons, b1]
  simp only [bind_ok, evEs_nil, c1, out_ok]
  rfl
theorem s3 (hm : 6 ≤ m) (S : Shares qs) (R : Row qs.length r) (hd : Dice c xs) (hc : c ≤ 2 ^ 900) : ∃ r' xs', evS (run fs m) r3 [some (.obj 0), some (shD qs), some (rowD r), none, none, none, none, none, none, none, none, none] (.lst xs :: G) = .nx [some (.obj 0), some (shD qs), some (rowD r'), none, none, none, none, none, none, none, none, none] (.lst xs' :: G) ∧ Row qs.length r' ∧ Dice (c + 2) xs' := by
  have h2 := S.l2
  have h8 := S.l8
  have big : ∀ k : Nat, k ≤ 200 → c + k ≤ 2 ^ 901 := fun k hk => Nat.le_trans (Nat.add_le_add hc hk) (by decide +kernel)
  obtain ⟨t, xs1, a1, a2, a3, a4⟩ := roll_X (m := m) (M := .lst xs :: G) (ρ := [some (.obj 0), some (shD qs), some (rowD r), none, none, none, none, none, none, none, none, none]) (e := .con (.int 9)) (by omega) rfl rfl hd (big 0 (by omega)) (by decide) (by decide)
  obtain ⟨v, xs2, b1, b2, b3, b4⟩ := roll_X (m := m) (M := .lst xs1 :: G) (ρ := [some (.obj 0), some (shD qs), some (rowD r), none, none, none, none, none, none, none, none, none]) (G := G) (xs := xs1) (t := (qs.length : Nat)) (e := .blt .len (.cons (.var 1) .nil)) (by omega) rfl (by simp) a4 (big 1 (by omega)) (by omega) (by omega)
  have em : binop .Mult (.tup [.int v]) (.int 60) (.lst xs2 :: G) = .ok (.tup (List.replicate 60 (.int v))) (.lst xs2 :: G) := by
    unfold binop
    simp only
    rw [if_pos (by simp)]
    rfl
  simp only [evS_ife, evE_cmp, a1, bind_ok, evE_con, c_eq, test_bl, out_ok]
  by_cases h : t = 0
  · simp only [h, decide_true, if_true]
    refine ⟨List.replicate 60 v.toNat, xs2, ?_, ⟨by simp, fun x hx => ?_⟩, b4⟩
    · simp only [evSs_cons, evS_asg, evE_bin, evE_tup, evEs_cons, evEs_nil, b1, bind_ok, evE_con, List.length_cons, List.length_nil]
      have er : rowD (List.replicate 60 v.toNat) = .tup (List.replicate 60 (.int v)) := by
        show D.tup (List.map _ _) = _
        rw [List.map_replicate, Int.toNat_of_nonneg b2]
      rw [if_pos (by decide), bind_ok, em, er]
      rfl
    · have := List.eq_of_mem_replicate hx
      omega
  · simp only [h, decide_false, Bool.false_eq_true, if_false]
    exact ⟨r, xs1, rfl, R, a4.mono (by omega)⟩
theorem cnt_map {k : Nat} : cntL k r = ((List.range k).map fun i => r.count i).map fun x => D.int (x : Nat) := by
  unfold cntL
  rw [List.map_map]
  rfl
theorem rng_cnt {k : Nat} {f : Nat → D → D} (h : ∀ i d, f i d = .int (r.count i : Nat)) : ((rngL 0 k).zipIdx.map fun d => f d.2 d.1) = cntL k r := by
  apply List.ext_getElem?
  intro j
  rw [List.getElem?_map, List.getElem?_zipIdx]
  rcases Nat.lt_or_ge j k with hj | hj
  · rw [cnt_at hj, List.getElem?_eq_getElem (by rw [rngL_len]; exact hj)]
    show some (f (0 + j) _) = _
    rw [h, Nat.zero_add]
  · rw [List.getElem?_eq_none (by rw [rngL_len]; exact hj), List.getElem?_eq_none (by rw [cnt_len]; exact hj)]
    rfl
theorem s4 (hm : 8 ≤ m) (S : Shares qs) (R : Row qs.length r) : ∃ G', evS (run fs m) r4 [some (.obj 0), some (shD qs), some (rowD r), none, none, none, none, none, none, none, none, none] (.lst xs :: G) = .nx [some (.obj 0), some (shD qs), some (rowD r), none, none, none, none, none, none, none, none, none] (.lst xs :: G') := by
  have h8 := S.l8
  have hl := R.len
  have hL := lim
  have e1 := s_counts_of (n := m) (M := .lst xs :: G) hm S R
  have lc := lc_pure (F := run fs m) (e := .mth .count (.var 2) (.cons (.var 11) .nil)) (t := .nm 11) (it := .rng1 (.blt .len (.cons (.var 1) .nil))) (own := [11]) (ρ := [some (.obj 0), some (shD qs), some (rowD r), none, none, none, none, none, none, none, none, none]) (M := .lst xs :: G) (M1 := .lst xs :: G) (sr := .rng 0 qs.length) (ys := rngL 0 qs.length) (f := fun i _ => .int (r.count i : Nat))
    (by
      have := rng1_nat (k := qs.length) (by omega)
      simp only [evI_rng1, evE_blt, evEs_cons, evEs_nil, evE_var, List.getElem?_cons_succ, List.getElem?_cons_zero, getV_some, bind_ok, bl_len, List.length_map, this, ofOpt_some])
    (fun i h => at_rng) (by rw [rngL_len]; omega) (fun i d hd => by
      obtain ⟨hi, rfl⟩ := rngL_get hd
      rw [Int.zero_add]
      refine ⟨[some (.obj 0), some (shD qs), some (rowD r), none, none, none, none, none, none, none, none, some (.int i)], by simp [wipeE], ?_⟩
      simp only [evE_mth, evE_var, evEs_cons, evEs_nil, List.getElem?_cons_succ, List.getElem?_cons_zero, getV_some, bind_ok]
      rw [if_pos (show mthOk .count (rowD r) (.lst xs :: G) = true from rfl), count_row])
  rw [rng_cnt (fun _ _ => rfl)] at lc
  have rp : ∀ M : Mem, blt .repr [.tup (cntL qs.length r)] M = .ok (.str (PyData.tuple (((List.range qs.length).map fun i => r.count i).map fun x => PyData.int (x : Nat))).shown) M := fun M => by
    rw [cnt_map]
    refine repr_nats (fun x hx => ?_) (by simp; omega)
    obtain ⟨i, _, rfl⟩ := List.mem_map.mp hx
    have := List.count_le_length (a := i) (l := r)
    omega
  refine ⟨G ++ [.lst (cntL qs.length r)], ?_⟩
  simp only [evS_ife, evE_cmp, evE_blt (b := .repr), evE_blt (b := .tuple), evEs_cons, evEs_nil, evE_call, evE_var, List.getElem?_cons_succ, List.getElem?_cons_zero, getV_some, bind_ok, e1, rp, lc]
  rw [bl_tuple_o (xs := cntL qs.length r) (by simp)]
  simp only [bind_ok, rp, c_sne, decide_true, Bool.not_true, test_bl, out_ok, Bool.false_eq_true, if_false, evSs_nil, List.cons_append]
end
end K58
end
section
set_option Elab.async false
set_option linter.all false
set_option maxRecDepth 100000
set_option maxHeartbeats 1000000
set_option exponentiation.threshold 20000
/-! K58y: the steps of a right row, second half. -/
namespace K58
open PySem Mi
section
variable {n m c : Nat} {M G : Mem} {p q : Rat} {qs : List Rat} {r : List Nat} {xs : List D}
theorem sum_bd31 {ps : List Rat} (h : ∀ q ∈ ps, Bd 31 q) : ∀ i, i ≤ ps.length → Bd (1 + 32 * i) (sumR (ps.take i))
  | 0, _ => ⟨by show (0 : Int).natAbs < 2; decide, by show 1 < 2; decide⟩
  | i + 1, hi => by
    have e : ps[i]? = some ps[i] := List.getElem?_eq_getElem hi
    rw [sum_take e]
    have := add_bd2 (sum_bd31 h i (by omega)) (h _ (List.getElem_mem hi))
    exact this.mono (by omega)
theorem zero_tup {ρ : Mi.Env} {F : Fns} : evE F (.tup (.cons (.con (.int 0)) (.cons (.con (.int 1)) .nil))) ρ M = .ok (fr 0) M := by
  simp only [evE_tup, evEs_cons, evEs_nil, evE_con, bind_ok, List.length_cons, List.length_nil]
  rw [if_pos (by decide)]
  rfl
theorem s5 (hm : 8 ≤ m) (S : Shares qs) (R : Row qs.length r) (hd : Dice c xs) (hc : c ≤ 2 ^ 900) : ∃ o3 o4 o5 o6 xs' G', evS (run fs m) r5 [some (.obj 0), some (shD qs), some (rowD r), none, none, none, none, none, none, none, none, none] (.lst xs :: G) = .nx [some (.obj 0), some (shD qs), some (rowD r), o3, o4, o5, o6, none, none, none, none, none] (.lst xs' :: G') ∧ Dice (c + 1) xs' := by
  have h8 := S.l8
  have hl := R.len
  have hL := lim
  obtain ⟨t, xs1, a1, a2, a3, a4⟩ := roll_X (m := m) (M := .lst xs :: G) (G := G) (xs := xs) (ρ := [some (.obj 0), some (shD qs), some (rowD r), none, none, none, none, none, none, none, none, none]) (t := (r.length + 1 : Nat)) (e := .bin .Add (.blt .len (.cons (.var 2) .nil)) (.con (.int 1))) (by omega) rfl (by simp) hd (Nat.le_trans hc (Nat.pow_le_pow_right (by decide) (by decide))) (by omega) (by omega)
  obtain ⟨k3, rfl⟩ : ∃ k : Nat, t = (k : Int) := ⟨t.toNat, by omega⟩
  obtain ⟨ρ', M', e1, G', o3, o4, o5, o6, e2, e3⟩ := fr_rule (F := run fs m) (t := .nm 3) (it := .val (.tup (.cons (.con (.int 0)) (.cons (.blt .len (.cons (.var 2) .nil)) (.cons (.call i__law_roll (.cons (.var 0) (.cons (.bin .Add (.blt .len (.cons (.var 2) .nil)) (.con (.int 1))) .nil))) .nil))))) (b := (.cons (.asg (.nm 4) (.call i__law_sp_offs (.cons (.var 1) (.cons (.var 2) (.cons (.var 3) .nil))))) (.cons (.ife (.cmp .NotEq (.call i_off_at (.cons (.var 1) (.cons (.var 2) (.cons (.var 3) .nil)))) (.blt .tuple (.cons (.var 4) .nil))) (.cons (.ret (.con (.bl false))) .nil) .nil) (.cons (.asg (.nm 5) (.tup (.cons (.con (.int 0)) (.cons (.con (.int 1)) .nil)))) (.cons (.fr (.nm 6) (.val (.var 4)) (.cons (.asg (.nm 5) (.call i__law_fr_plus (.cons (.var 5) (.cons (.var 6) .nil)))) .nil)) (.cons (.ife (.cmp .NotEq (.var 5) (.tup (.cons (.con (.int 0)) (.cons (.con (.int 1)) .nil)))) (.cons (.ret (.con (.bl false))) .nil) .nil) .nil)))))) (ρ := [some (.obj 0), some (shD qs), some (rowD r), none, none, none, none, none, none, none, none, none]) (M := .lst xs :: G) (M1 := .lst xs1 :: G) (sr := .tup ([0, r.length, k3].map fun x : Nat => D.int x)) (ys := [0, r.length, k3].map fun x : Nat => D.int x)
    (fun _ ρ M => ∃ G o3 o4 o5 o6, ρ = [some (.obj 0), some (shD qs), some (rowD r), o3, o4, o5, o6, none, none, none, none, none] ∧ M = .lst xs1 :: G)
    (by
      simp only [evI_val, evE_tup, evEs_cons, evE_con, evEs_nil, bind_ok, evE_blt, evE_var, List.getElem?_cons_succ, List.getElem?_cons_zero, getV_some, bl_len, List.length_map, a1, List.length_cons, List.length_nil]
      rw [if_pos (by decide)]
      rfl)
    (fun _ ρ M _ h => at_tup h) (by show 3 ≤ LIM; omega) ⟨G, none, none, none, none, rfl, rfl⟩ (fun i d ρ M hd' ⟨G, o3, o4, o5, o6, hρ, hM⟩ => by
      subst hM hρ
      obtain ⟨k, hk, rfl⟩ := map_get hd'
      have hkr : k ≤ r.length := by
        have := List.mem_of_getElem? hk
        simp only [List.mem_cons, List.not_mem_nil, or_false] at this
        omega
      have ht : (r.take k).length ≤ 60 := by rw [List.length_take]; omega
      have b1 := s_sp_offs (n := m) (M := .lst xs1 :: G) (by omega) S R hkr
      have g2 : ((.lst xs1 :: G : Mem) ++ [.lst ((offs qs (r.take k)).map fr)])[(.lst xs1 :: G : Mem).length]? = some (.lst ((offs qs (r.take k)).map fr)) := by simp
      have tot := offs_total S (R.take k)
      have hb := offs_bd (r := r.take k) S ht
      have hol : (offs qs (r.take k)).length = qs.length := offs_len
      have b2 := s_off_at (n := m) (M := (.lst xs1 :: G : Mem) ++ [.lst ((offs qs (r.take k)).map fr)]) hm S R hkr
      generalize hM2 : (.lst xs1 :: G : Mem) ++ [.lst ((offs qs (r.take k)).map fr)] = M2 at b1 b2 g2
      generalize hb' : (.lst xs1 :: G : Mem).length = b at b1 g2
      generalize hl2 : offs qs (r.take k) = l at *
      have t1 : evS (run fs m) (.asg (.nm 4) (.call i__law_sp_offs (.cons (.var 1) (.cons (.var 2) (.cons (.var 3) .nil))))) [some (.obj 0), some (shD qs), some (rowD r), some (.int k), o4, o5, o6, none, none, none, none, none] (.lst xs1 :: G) = .nx [some (.obj 0), some (shD qs), some (rowD r), some (.int k), some (.obj b), o5, o6, none, none, none, none, none] M2 := by
        simp only [evS_asg, evE_call, evEs_cons, evEs_nil, evE_var, List.getElem?_cons_succ, List.getElem?_cons_zero, getV_some, bind_ok, b1, out_ok]
        rfl
      have t2 : evS (run fs m) (.ife (.cmp .NotEq (.call i_off_at (.cons (.var 1) (.cons (.var 2) (.cons (.var 3) .nil)))) (.blt .tuple (.cons (.var 4) .nil))) (.cons (.ret (.con (.bl false))) .nil) .nil) [some (.obj 0), some (shD qs), some (rowD r), some (.int k), some (.obj b), o5, o6, none, none, none, none, none] M2 = .nx [some (.obj 0), some (shD qs), some (rowD r), some (.int k), some (.obj b), o5, o6, none, none, none, none, none] M2 := by
        simp only [evS_ife, evE_cmp, evE_call, evE_blt, evEs_cons, evEs_nil, evE_var, List.getElem?_cons_succ, List.getElem?_cons_zero, getV_some, bind_ok, b2, bl_tuple_o g2, eq_frs.2, decide_true, Bool.not_true, test_bl, out_ok, Bool.false_eq_true, if_false, evSs_nil]
      have t3 : evS (run fs m) (.asg (.nm 5) (.tup (.cons (.con (.int 0)) (.cons (.con (.int 1)) .nil)))) [some (.obj 0), some (shD qs), some (rowD r), some (.int k), some (.obj b), o5, o6, none, none, none, none, none] M2 = .nx [some (.obj 0), some (shD qs), some (rowD r), some (.int k), some (.obj b), some (fr 0), o6, none, none, none, none, none] M2 := by
        rw [evS_asg, zero_tup, out_ok]
        rfl
      obtain ⟨ρ2, M3, t4, hM3, o7, hρ2⟩ := fr_rule (F := run fs m) (t := .nm 6) (it := .val (.var 4)) (b := (.cons (.asg (.nm 5) (.call i__law_fr_plus (.cons (.var 5) (.cons (.var 6) .nil)))) .nil)) (ρ := [some (.obj 0), some (shD qs), some (rowD r), some (.int k), some (.obj b), some (fr 0), o6, none, none, none, none, none]) (M := M2) (M1 := M2) (sr := .lst b) (ys := l.map fr)
        (fun j ρ M' => M2 = M' ∧ ∃ o, ρ = [some (.obj 0), some (shD qs), some (rowD r), some (.int k), some (.obj b), some (fr (sumR (l.take j))), o, none, none, none, none, none])
        (by simp only [evI_val, evE_var, List.getElem?_cons_succ, List.getElem?_cons_zero, getV_some, bind_ok, srOf_obj g2, ofOpt_some])
        (fun j ρ M ⟨hM, _⟩ h => by rw [← hM]; exact at_lst g2 h) (by rw [List.length_map]; omega) ⟨rfl, o6, rfl⟩ (fun j d ρ M' hd ⟨hM, o, hρ⟩ => by
          subst hM hρ
          obtain ⟨q, hq, rfl⟩ := map_get hd
          have hj := (List.getElem?_eq_some_iff.mp hq).1
          have c1 := s_lplus (n := m) (M := M2) (by omega) (show 1000 ≤ 3000 by decide) ((sum_bd31 hb j (by omega)).mono (by omega)) ((hb q (List.mem_of_getElem? hq)).mono (by decide))
          refine ⟨[some (.obj 0), some (shD qs), some (rowD r), some (.int k), some (.obj b), some (fr (sumR (l.take j))), some (fr q), none, none, none, none, none], [some (.obj 0), some (shD qs), some (rowD r), some (.int k), some (.obj b), some (fr (sumR (l.take (j + 1)))), some (fr q), none, none, none, none, none], _, by simp, .inl ?_, rfl, some (fr q), rfl⟩
          rw [sum_take hq]
          simp only [evSs_cons, evSs_nil, evS_asg, evE_call, evEs_cons, evEs_nil, evE_var, List.getElem?_cons_succ, List.getElem?_cons_zero, getV_some, bind_ok, c1, out_ok]
          rfl)
      subst hM3 hρ2
      rw [List.length_map, List.take_of_length_le (Nat.le_refl _)] at t4
      rw [show sumR l = 0 from tot] at t4
      have t5 : evS (run fs m) (.ife (.cmp .NotEq (.var 5) (.tup (.cons (.con (.int 0)) (.cons (.con (.int 1)) .nil)))) (.cons (.ret (.con (.bl false))) .nil) .nil) [some (.obj 0), some (shD qs), some (rowD r), some (.int k), some (.obj b), some (fr 0), o7, none, none, none, none, none] M2 = .nx [some (.obj 0), some (shD qs), some (rowD r), some (.int k), some (.obj b), some (fr 0), o7, none, none, none, none, none] M2 := by
        rw [evS_ife, evE_cmp, evE_var]
        simp only [List.getElem?_cons_succ, List.getElem?_cons_zero, getV_some, bind_ok, zero_tup, eq_fr.2, decide_true, Bool.not_true, test_bl, out_ok, Bool.false_eq_true, if_false, evSs_nil]
      refine ⟨[some (.obj 0), some (shD qs), some (rowD r), some (.int k), o4, o5, o6, none, none, none, none, none], _, M2, by simp, .inl ?_, G ++ [.lst (l.map fr)], some (.int k), some (.obj b), some (fr 0), o7, rfl, (by rw [← hM2]; rfl)⟩
      rw [evSs_cons, t1, next_nx, evSs_cons, t2, next_nx, evSs_cons, t3, next_nx, evSs_cons, t4, next_nx, evSs_cons, t5, next_nx, evSs_nil])
  subst e2 e3
  exact ⟨o3, o4, o5, o6, xs1, G', e1, a4⟩
end
end K58
end
section
set_option Elab.async false
set_option linter.all false
set_option maxRecDepth 100000
set_option maxHeartbeats 1000000
set_option exponentiation.threshold 20000
/-! K58z: the last steps of a right row. -/
namespace Mi
open PySem PySem.W
variable {M : Mem}
theorem py_frsO {ps : List Rat} {a n : Nat} (ha : M[a]? = some (.lst (ps.map fr))) : py M (n + 3) (.obj a) = some (Datum.toD (ps.map frP)) := by
  show (match M[a]? with
    | some (.lst xs) => (xs.mapM (py M (n + 2))).map PyData.list
    | _ => none) = _
  rw [ha]
  show ((ps.map fr).mapM (py M (n + 2))).map PyData.list = _
  rw [mapM_map (h := fun q => Datum.toD (frP q)) (fun x => py_fr)]
  show some (PyData.list _) = some (PyData.list _)
  rw [List.map_map]
  rfl
theorem eq_frsO {ps qs : List Rat} {a b : Nat} (ha : M[a]? = some (.lst (ps.map fr))) (hb : M[b]? = some (.lst (qs.map fr))) : cmpop .Eq (.obj a) (.obj b) M = .ok (.bl (decide (ps = qs))) M ∧ cmpop .NotEq (.obj a) (.obj b) M = .ok (.bl (!decide (ps = qs))) M := by
  have e := eq_data (M := M) (x := .obj a) (y := .obj b) rfl (py_frsO (n := 6) ha) (py_frsO (n := 6) hb)
  rw [decide_eq_decide.mpr map_frP_inj] at e
  exact e
end Mi
namespace K58
open PySem Mi
section
variable {n m c : Nat} {M G : Mem} {p q bs : Rat} {qs : List Rat} {r : List Nat} {xs : List D} {o3 o4 o5 o6 : Option D} {db : Bool}
theorem s6 (hm : 8 ≤ m) (S : Shares qs) (R : Row qs.length r) : evS (run fs m) r6 [some (.obj 0), some (shD qs), some (rowD r), o3, o4, o5, o6, none, none, none, none, none] M = .nx [some (.obj 0), some (shD qs), some (rowD r), o3, o4, o5, o6, some (fr (bst qs r r.length)), none, none, none, none] M := by
  have e := s_sp_off (n := m) (M := M) (by omega) S R
  simp only [evS_asg, evE_call, evEs_cons, evEs_nil, evE_var, List.getElem?_cons_succ, List.getElem?_cons_zero, getV_some, bind_ok, e, out_ok]
  rfl
theorem s7 (hm : 8 ≤ m) (S : Shares qs) (hb : Bd 31 bs) : evS (run fs m) r7 [some (.obj 0), some (shD qs), some (rowD r), o3, o4, o5, o6, some (fr bs), none, none, none, none] M = .nx [some (.obj 0), some (shD qs), some (rowD r), o3, o4, o5, o6, some (fr bs), some (.bl (decide (bs ≤ bnd qs.length))), none, none, none] M := by
  have e := s_sp_bound (n := m) (M := M) (by omega) S
  have e2 := s_lless (n := m) (M := M) (by omega) (show 31 ≤ 3000 by decide) ((bnd_bd S.l2 S.l8).mono (show 10 ≤ 31 by decide)) hb
  have e3 : (!decide (bnd qs.length < bs)) = decide (bs ≤ bnd qs.length) := by
    rw [← decide_not]
    exact decide_eq_decide.mpr Rat.not_lt
  simp only [evS_asg, evE_not, evE_tst, evE_call, evEs_cons, evEs_nil, evE_var, List.getElem?_cons_succ, List.getElem?_cons_zero, getV_some, bind_ok, e, e2, truth_bl, Option.map_some, ofOpt_some, test_bl, e3, out_ok]
  rfl
theorem s8 (hm : 8 ≤ m) (S : Shares qs) (R : Row qs.length r) (hbs : bst qs r r.length = bs) : evS (run fs m) r8 [some (.obj 0), some (shD qs), some (rowD r), o3, o4, o5, o6, some (fr bs), some (.bl (decide (bs ≤ bnd qs.length))), none, none, none] M = .nx [some (.obj 0), some (shD qs), some (rowD r), o3, o4, o5, o6, some (fr bs), some (.bl (decide (bs ≤ bnd qs.length))), none, none, none] M := by
  have e := s_off_of (n := m) (M := M) hm S R
  have e2 := s_is_spread (n := m) (M := M) hm S R
  rw [hbs] at e e2
  simp only [evS_ife, evE_or, evE_cmp, evE_blt, evE_call, evEs_cons, evEs_nil, evE_var, List.getElem?_cons_succ, List.getElem?_cons_zero, getV_some, bind_ok, e, e2, eq_fr.2, decide_true, Bool.not_true, onBl_f, repr_bl, c_sne, test_bl, out_ok, Bool.false_eq_true, if_false, evSs_nil]
/-! ### bounds near the far off -/
def mil : Rat := ⟨1, 1000, by decide, by decide⟩
def half : Rat := ⟨1, 2, by decide, by decide⟩
def Good (w : Rat) : Prop := 0 ≤ w.num ∧ Bd 100 w
theorem good_list (h0 : 0 ≤ bs) (hb : Bd 31 bs) : ∀ w ∈ [bs, bs + mil, 0, half, 1], Good w := by
  intro w hw
  simp only [List.mem_cons, List.not_mem_nil, or_false] at hw
  rcases hw with rfl | rfl | rfl | rfl | rfl
  · exact ⟨Rat.num_nonneg.mpr h0, hb.mono (by decide)⟩
  · refine ⟨Rat.num_nonneg.mpr (Rat.add_nonneg h0 (by decide)), (add_bd2 hb (c := 10) ⟨by decide, by decide⟩).mono (by decide)⟩
  · exact ⟨by decide, by decide, by decide⟩
  · exact ⟨by decide, by decide, by decide⟩
  · exact ⟨by decide, by decide, by decide⟩
theorem good_under (h0 : 0 ≤ bs) (hz : bs ≠ 0) (hb : Bd 31 bs) : Good (Rat.divInt (bs.num * 1000 - 1) ((bs.den : Int) * 1000)) ∧ 0 ≤ bs.num * 1000 - 1 ∧ (bs.num * 1000 - 1).natAbs < 2 ^ 60 ∧ ((bs.den : Int) * 1000).natAbs < 2 ^ 60 ∧ 0 < (bs.den : Int) * 1000 := by
  have n0 : 0 ≤ bs.num := Rat.num_nonneg.mpr h0
  have n1 : bs.num ≠ 0 := fun h => hz (Rat.num_eq_zero.mp h)
  have d0 := bs.den_pos
  obtain ⟨b1, b2⟩ := hb
  have e1 : (bs.num * 1000 - 1).natAbs < 2 ^ 60 := by omega
  have e2 : ((bs.den : Int) * 1000).natAbs < 2 ^ 60 := by omega
  have e3 : 0 < (bs.den : Int) * 1000 := by omega
  refine ⟨⟨?_, (divInt_bd e3 e1 e2).mono (by decide)⟩, by omega, e1, e2, e3⟩
  rw [Rat.num_divInt, Int.sign_eq_one_of_pos e3, Int.one_mul]
  exact Int.ediv_nonneg (by omega) (Int.natCast_nonneg _)
theorem s9 (hm : 8 ≤ m) (hb : Bd 31 bs) : evS (run fs m) r9 [some (.obj 0), some (shD qs), some (rowD r), o3, o4, o5, o6, some (fr bs), some (.bl db), none, none, none] (.lst xs :: G) = .nx [some (.obj 0), some (shD qs), some (rowD r), o3, o4, o5, o6, some (fr bs), some (.bl db), some (.obj (G.length + 1)), none, none] (.lst xs :: (G ++ [.lst ([bs, bs + mil, 0, half, 1].map fr)])) := by
  have e := s_lplus (n := m) (M := .lst xs :: G) (by omega) (show 31 ≤ 3000 by decide) hb (q := mil) ⟨by decide, by decide⟩
  have e1 : evE (run fs m) (.tup (.cons (.con (.int 1)) (.cons (.con (.int 1000)) .nil))) [some (.obj 0), some (shD qs), some (rowD r), o3, o4, o5, o6, some (fr bs), some (.bl db), none, none, none] (.lst xs :: G) = .ok (fr mil) (.lst xs :: G) := by
    simp [LIM]
    rfl
  have e2 : evE (run fs m) (.tup (.cons (.con (.int 1)) (.cons (.con (.int 2)) .nil))) [some (.obj 0), some (shD qs), some (rowD r), o3, o4, o5, o6, some (fr bs), some (.bl db), none, none, none] (.lst xs :: G) = .ok (fr half) (.lst xs :: G) := by
    simp [LIM]
    rfl
  have e3 : evE (run fs m) (.tup (.cons (.con (.int 1)) (.cons (.con (.int 1)) .nil))) [some (.obj 0), some (shD qs), some (rowD r), o3, o4, o5, o6, some (fr bs), some (.bl db), none, none, none] (.lst xs :: G) = .ok (fr 1) (.lst xs :: G) := by
    simp [LIM]
    rfl
  rw [evS_asg, evE_lst]
  simp only [evEs_cons, evEs_nil, evE_call, e1, e2, e3, zero_tup, evE_var, List.getElem?_cons_succ, List.getElem?_cons_zero, getV_some, bind_ok, e, List.length_cons, List.length_nil]
  rw [if_pos (by decide)]
  rfl
theorem s10 (hm : 8 ≤ m) (h0 : 0 ≤ bs) (hb : Bd 31 bs) : ∃ (G' : Mem) (ws : List Rat), evS (run fs m) r10 [some (.obj 0), some (shD qs), some (rowD r), o3, o4, o5, o6, some (fr bs), some (.bl db), some (.obj (G.length + 1)), none, none] (.lst xs :: (G ++ [.lst ([bs, bs + mil, 0, half, 1].map fr)])) = .nx [some (.obj 0), some (shD qs), some (rowD r), o3, o4, o5, o6, some (fr bs), some (.bl db), some (.obj (G.length + 1)), none, none] (.lst xs :: G') ∧ G'[G.length]? = some (.lst (ws.map fr)) ∧ ws.length ≤ 6 ∧ ∀ w ∈ ws, Good w := by
  have gl := good_list h0 hb
  generalize hw0 : [bs, bs + mil, 0, half, 1] = ws0 at *
  have hl0 : ws0.length = 5 := by rw [← hw0]; rfl
  generalize hM : (.lst xs :: (G ++ [.lst (ws0.map fr)]) : Mem) = M
  have gM : M[G.length + 1]? = some (.lst (ws0.map fr)) := by rw [← hM]; simp
  simp only [evS_ife, evE_cmp, evE_var, List.getElem?_cons_succ, List.getElem?_cons_zero, getV_some, bind_ok, zero_tup, eq_fr.2, test_bl, out_ok]
  by_cases hz : bs = 0
  · simp only [hz, decide_true, Bool.not_true, Bool.false_eq_true, if_false, evSs_nil]
    exact ⟨G ++ [.lst (ws0.map fr)], ws0, by rw [← hM], by simp, by omega, gl⟩
  · obtain ⟨g1, g2, g3, g4, g5⟩ := good_under h0 hz hb
    have e1 := hFL (m := m) (by omega) (bs.num * 1000 - 1) ((bs.den : Int) * 1000) M g5 (bits_num g3 (by decide)) (bits_num g4 (by decide))
    have e2 : idxD (fr bs) (.int 0) M = .ok (.int bs.num) M := ix0
    have e3 : idxD (fr bs) (.int 1) M = .ok (.int (bs.den : Int)) M := ix1
    have e4 := b_mul (p := bs.num) (q := 1000) (M := M) (bits_num hb.1 (by decide)) (small (by decide))
    have e5 := b_mul (p := (bs.den : Int)) (q := 1000) (M := M) (bits_num (by rw [Int.natAbs_natCast]; exact hb.2) (by decide)) (small (by decide))
    have e6 : mthOk .append (.obj (G.length + 1)) M = true := by
      show (lstO M (G.length + 1)).isSome = true
      rw [lst_o gM]
      rfl
    have e7 : ∀ d, mth .append (.obj (G.length + 1)) [d] M = .ok .non (M.set (G.length + 1) (.lst (ws0.map fr ++ [d]))) := fun d => by
      show ((ofOpt (lstO M (G.length + 1)) M).bind fun ys _ => if ys.length < LIM then Res.ok D.non (M.set (G.length + 1) (.lst (ys ++ [d]))) else .bad) = _
      rw [lst_o gM, ofOpt_some, bind_ok, if_pos (by rw [List.length_map, hl0]; decide)]
    simp only [hz, decide_false, Bool.not_false, if_true]
    refine ⟨G ++ [.lst ((ws0 ++ [Rat.divInt (bs.num * 1000 - 1) ((bs.den : Int) * 1000)]).map fr)], ws0 ++ [Rat.divInt (bs.num * 1000 - 1) ((bs.den : Int) * 1000)], ?_, by simp, by rw [List.length_append, hl0]; exact Nat.le_refl _, fun w hw => ?_⟩
    · simp only [evSs_cons, evSs_nil, evS_exp, evE_mth, evE_call, evEs_cons, evEs_nil, evE_bin, evE_idx, evE_con, evE_var, List.getElem?_cons_succ, List.getElem?_cons_zero, getV_some, bind_ok, e2, e3, e4, e5, b_sub, e1, e6, if_true, e7, out_ok, next_nx]
      rw [← hM]
      simp
    · rcases List.mem_append.mp hw with hw | hw
      · exact gl w hw
      · rw [List.mem_singleton.mp hw]
        exact g1
theorem s11 {ws : List Rat} {b : Nat} (hm : 8 ≤ m) (S : Shares qs) (R : Row qs.length r) (hbs : bst qs r r.length = bs) (hM : M[b]? = some (.lst (ws.map fr))) (hl : ws.length ≤ 6) (hw : ∀ w ∈ ws, Good w) : ∃ o10, evS (run fs m) r11 [some (.obj 0), some (shD qs), some (rowD r), o3, o4, o5, o6, some (fr bs), some (.bl db), some (.obj b), none, none] M = .nx [some (.obj 0), some (shD qs), some (rowD r), o3, o4, o5, o6, some (fr bs), some (.bl db), some (.obj b), o10, none] M := by
  have hb : Bd 100 bs := by rw [← hbs]; exact (bst_bd S R.len r.length).mono (by decide)
  obtain ⟨ρ', M', e1, hM', o, hρ⟩ := fr_rule (F := run fs m) (t := .nm 10) (it := .val (.var 9)) (b := (.cons (.ife (.cmp .NotEq (.blt .repr (.cons (.call i_keeps_within (.cons (.var 1) (.cons (.var 2) (.cons (.var 10) .nil)))) .nil)) (.blt .repr (.cons (.not (.tst (.call i__law_fr_less (.cons (.var 10) (.cons (.var 7) .nil))))) .nil))) (.cons (.ret (.con (.bl false))) .nil) .nil) .nil)) (ρ := [some (.obj 0), some (shD qs), some (rowD r), o3, o4, o5, o6, some (fr bs), some (.bl db), some (.obj b), none, none]) (M := M) (M1 := M) (sr := .lst b) (ys := ws.map fr)
    (fun _ ρ M' => M = M' ∧ ∃ o, ρ = [some (.obj 0), some (shD qs), some (rowD r), o3, o4, o5, o6, some (fr bs), some (.bl db), some (.obj b), o, none])
    (by simp only [evI_val, evE_var, List.getElem?_cons_succ, List.getElem?_cons_zero, getV_some, bind_ok, srOf_obj hM, ofOpt_some])
    (fun _ ρ M ⟨h1, _⟩ h => by rw [← h1]; exact at_lst hM h) (by rw [List.length_map, lim]; omega) ⟨rfl, none, rfl⟩ (fun j d ρ M' hd ⟨h1, o, hρ⟩ => by
      subst h1 hρ
      obtain ⟨w, hq, rfl⟩ := map_get hd
      obtain ⟨w0, w1⟩ := hw w (List.mem_of_getElem? hq)
      have c1 := s_keeps_within (n := m) (M := M) (b := w) hm S R (Nat.lt_of_lt_of_le w1.1 (by decide +kernel)) (Nat.lt_of_lt_of_le w1.2 (by decide +kernel)) w0
      rw [hbs] at c1
      have c2 := s_lless (n := m) (M := M) (by omega) (show 100 ≤ 3000 by decide) w1 hb
      have c3 : (!decide (w < bs)) = decide (bs ≤ w) := by
        rw [← decide_not]
        exact decide_eq_decide.mpr Rat.not_lt
      refine ⟨[some (.obj 0), some (shD qs), some (rowD r), o3, o4, o5, o6, some (fr bs), some (.bl db), some (.obj b), some (fr w), none], _, _, by simp, .inl ?_, rfl, some (fr w), rfl⟩
      simp only [evSs_cons, evSs_nil, evS_ife, evE_cmp, evE_blt, evE_not, evE_tst, evE_call, evEs_cons, evEs_nil, evE_var, List.getElem?_cons_succ, List.getElem?_cons_zero, getV_some, bind_ok, c1, c2, repr_bl, truth_bl, Option.map_some, ofOpt_some, test_bl, c3, c_sne, decide_true, Bool.not_true, out_ok, Bool.false_eq_true, if_false, next_nx])
  subst hM' hρ
  exact ⟨o, e1⟩
/-! ### backwards -/
def p0 : D → Bool
  | .tup (.int a :: _) => !decide (a = 0)
  | _ => false
theorem p0_fr : p0 (fr q) = !decide (q = 0) := by
  show (!decide (q.num = 0)) = _
  rw [decide_eq_decide.mpr Rat.num_eq_zero]
theorem filt : ∀ (l : List Rat) (k : Nat), (((l.map fr).zipIdx k).filter fun d => p0 d.1).map (fun d => d.1) = (l.filter fun q => !decide (q = 0)).map fr
  | [], k => rfl
  | q :: l, k => by
    rw [List.map_cons, List.zipIdx_cons, List.filter_cons, List.filter_cons]
    show (if p0 (fr q) = true then _ else _ : List (D × Nat)).map _ = _
    rw [p0_fr]
    by_cases h : (!decide (q = 0)) = true
    · rw [if_pos h, if_pos h, List.map_cons, List.map_cons, filt l]
    · rw [if_neg h, if_neg h, filt l]
end
end K58
end
section
set_option Elab.async false
set_option linter.all false
set_option maxRecDepth 100000
set_option maxHeartbeats 1000000
set_option exponentiation.threshold 20000
/-! K58zb: a right row, whole. -/
namespace K58
open PySem Mi
section
variable {n m c : Nat} {M G : Mem} {p q bs : Rat} {qs : List Rat} {r : List Nat} {xs : List D} {o3 o4 o5 o6 o10 : Option D} {db : Bool} {b : Nat}
theorem s12 (hm : 8 ≤ m) (S : Shares qs) (R : Row qs.length r) (hbs : bst qs r r.length = bs) : ∃ G', (evSs (run fs m) (.cons r12 (.cons r13 .nil)) [some (.obj 0), some (shD qs), some (rowD r), o3, o4, o5, o6, some (fr bs), some (.bl db), some (.obj b), o10, none] (.lst xs :: G)).res = .ok (.bl true) (.lst xs :: G') := by
  have h8 := S.l8
  have e1 := s_sp_offs (n := m) (M := .lst xs :: G) (by omega) S R (k := r.length) (Nat.le_refl _)
  rw [List.take_length] at e1
  have hol : (offs qs r).length = qs.length := offs_len
  have rev := fun h => rev_eq (r := r) S h
  generalize hl : offs qs r = l at *
  have g1 : ((.lst xs :: G : Mem) ++ [.lst (l.map fr)])[(.lst xs :: G : Mem).length]? = some (.lst (l.map fr)) := by simp
  have lc := lci_pure (F := run fs m) (e := .var 6) (t := .nm 6) (it := .val (.call i__law_sp_offs (.cons (.var 1) (.cons (.var 2) (.cons (.blt .len (.cons (.var 2) .nil)) .nil))))) (c := .cmp .NotEq (.var 6) (.tup (.cons (.con (.int 0)) (.cons (.con (.int 1)) .nil)))) (own := [6]) (ρ := [some (.obj 0), some (shD qs), some (rowD r), o3, o4, o5, o6, some (fr bs), some (.bl db), some (.obj b), o10, none]) (M := .lst xs :: G) (M1 := (.lst xs :: G : Mem) ++ [.lst (l.map fr)]) (sr := .lst (.lst xs :: G : Mem).length) (ys := l.map fr) (f := fun _ d => d) (p := fun _ d => p0 d)
    (by simp only [evI_val, evE_call, evE_blt, evEs_cons, evEs_nil, evE_var, List.getElem?_cons_succ, List.getElem?_cons_zero, getV_some, bind_ok, bl_len, List.length_map, e1, srOf_obj g1, ofOpt_some])
    (fun i h => at_lst g1 h) (by rw [List.length_map, lim]; omega) (fun i d hd => by
      obtain ⟨w, hq, rfl⟩ := map_get hd
      refine ⟨[some (.obj 0), some (shD qs), some (rowD r), o3, o4, o5, some (fr w), some (fr bs), some (.bl db), some (.obj b), o10, none], by simp [wipeE], ?_, fun _ => rfl⟩
      rw [evE_cmp, evE_var]
      simp only [List.getElem?_cons_succ, List.getElem?_cons_zero, getV_some, bind_ok, zero_tup, eq_fr.2, test_bl, p0_fr])
  rw [filt] at lc
  generalize hM1 : (.lst xs :: G : Mem) ++ [.lst (l.map fr)] = M1 at *
  have e2 : evE (run fs m) (.lst .nil) [some (.obj 0), some (shD qs), some (rowD r), o3, o4, o5, o6, some (fr bs), some (.bl db), some (.obj b), o10, none] (M1 ++ [.lst ((l.filter fun q => !decide (q = 0)).map fr)]) = .ok (.obj (M1.length + 1)) ((M1 ++ [.lst ((l.filter fun q => !decide (q = 0)).map fr)]) ++ [.lst []]) := by
    simp [LIM, Mi.alloc]
  have e3 := eq_frsO (M := (M1 ++ [.lst ((l.filter fun q => !decide (q = 0)).map fr)]) ++ [.lst []]) (a := M1.length) (b := M1.length + 1) (ps := l.filter fun q => !decide (q = 0)) (qs := []) (by simp) (by simp)
  have hM2 : (M1 ++ [.lst ((l.filter fun q => !decide (q = 0)).map fr)]) ++ [.lst []] = .lst xs :: (G ++ [.lst (l.map fr)] ++ [.lst ((l.filter fun q => !decide (q = 0)).map fr)] ++ [.lst []]) := by
    rw [← hM1]
    rfl
  refine ⟨G ++ [.lst (l.map fr)] ++ [.lst ((l.filter fun q => !decide (q = 0)).map fr)] ++ [.lst []], ?_⟩
  rw [evSs_cons, evS_ife, evE_cmp, lc, bind_ok, e2, bind_ok, e3.1, test_bl, out_ok]
  by_cases hz : (l.filter fun q => !decide (q = 0)) = []
  · rw [if_pos (decide_eq_true hz)]
    have hz2 : ∀ p ∈ l, p = 0 := fun p hp => by
      have := List.filter_eq_nil_iff.mp hz p hp
      simpa using this
    have e4 := s_off_of (n := m) (M := (M1 ++ [.lst ((l.filter fun q => !decide (q = 0)).map fr)]) ++ [.lst []]) hm S R.rev
    rw [rev hz2, hbs] at e4
    have e5 : slc3D 2 (rowD r) ((M1 ++ [.lst ((l.filter fun q => !decide (q = 0)).map fr)]) ++ [.lst []]) = .ok (rowD r.reverse) ((M1 ++ [.lst ((l.filter fun q => !decide (q = 0)).map fr)]) ++ [.lst []]) := by
      show Res.ok (D.tup (List.map _ r).reverse) _ = _
      rw [← List.map_reverse]
    rw [hM2] at e4 e5 ⊢
    simp only [evSs_cons, evSs_nil, evS_ret, evE_cmp, evE_call, evEs_cons, evEs_nil, evE_slc3, evE_var, List.getElem?_cons_succ, List.getElem?_cons_zero, getV_some, bind_ok, e5, e4, eq_fr.1, decide_true, out_ok, next_ret, res_ret]
  · rw [if_neg (by simpa using hz)]
    simp only [evSs_cons, evSs_nil, evS_ret, evE_con, out_ok, next_nx, next_ret, res_ret, hM2]
theorem s_right {a : Nat} (h : 9 ≤ n) (ha : M[a]? = some (.lst xs)) (hd : Dice c xs) (hc : c ≤ 2 ^ 800) : ∃ xs', run fs n i__law_right [.obj a] M = .ok (.bl true) (M.set a (.lst xs')) ∧ Dice (c + 145) xs' := by
  obtain ⟨m, rfl, hm⟩ := lev h
  have big : ∀ k : Nat, k ≤ 200 → c + k ≤ 2 ^ 899 := fun k hk => Nat.le_trans (Nat.add_le_add hc hk) (by decide +kernel)
  have bigger : (2 : Nat) ^ 899 ≤ 2 ^ 900 := Nat.pow_le_pow_right (by decide) (by decide)
  obtain ⟨qs, x1, a1, S, d1⟩ := s1 (m := m) (G := []) (by omega) hd (Nat.le_trans (big 0 (by omega)) bigger)
  obtain ⟨r0, x2, G2, a2, R0, d2⟩ := s2 (m := m) (G := []) (by omega) S d1 (big 20 (by omega))
  obtain ⟨r, x3, a3, R, d3⟩ := s3 (m := m) (G := G2) (by omega) S R0 d2 (Nat.le_trans (big 142 (by omega)) bigger)
  obtain ⟨G4, a4⟩ := s4 (m := m) (G := G2) (xs := x3) hm S R
  obtain ⟨o3, o4, o5, o6, x5, G5, a5, d5⟩ := s5 (m := m) (G := G4) hm S R d3 (Nat.le_trans (big 144 (by omega)) bigger)
  obtain ⟨bs, hbs⟩ : ∃ bs, bst qs r r.length = bs := ⟨_, rfl⟩
  have hb : Bd 31 bs := by rw [← hbs]; exact bst_bd S R.len r.length
  have h0 : 0 ≤ bs := by rw [← hbs]; exact bst_le.1
  have a6 := s6 (m := m) (M := .lst x5 :: G5) (o3 := o3) (o4 := o4) (o5 := o5) (o6 := o6) hm S R
  rw [hbs] at a6
  have a7 := s7 (m := m) (M := .lst x5 :: G5) (o3 := o3) (o4 := o4) (o5 := o5) (o6 := o6) (r := r) hm S hb
  have a8 := s8 (m := m) (M := .lst x5 :: G5) (o3 := o3) (o4 := o4) (o5 := o5) (o6 := o6) hm S R hbs
  have a9 := s9 (m := m) (xs := x5) (G := G5) (qs := qs) (r := r) (o3 := o3) (o4 := o4) (o5 := o5) (o6 := o6) (db := decide (bs ≤ bnd qs.length)) hm hb
  obtain ⟨G10, ws, a10, g1, g2, g3⟩ := s10 (m := m) (xs := x5) (G := G5) (qs := qs) (r := r) (o3 := o3) (o4 := o4) (o5 := o5) (o6 := o6) (db := decide (bs ≤ bnd qs.length)) hm h0 hb
  obtain ⟨o10, a11⟩ := s11 (m := m) (M := .lst x5 :: G10) (b := G5.length + 1) (o3 := o3) (o4 := o4) (o5 := o5) (o6 := o6) (db := decide (bs ≤ bnd qs.length)) hm S R hbs g1 g2 g3
  obtain ⟨G12, a12⟩ := s12 (m := m) (xs := x5) (G := G10) (b := G5.length + 1) (o3 := o3) (o4 := o4) (o5 := o5) (o6 := o6) (o10 := o10) (db := decide (bs ≤ bnd qs.length)) hm S R hbs
  refine ⟨x5, run_op (fd := fd__law_right) (G := .lst x5 :: G12) rfl ha hd.pure rfl ⟨rfl, by show 1 ≤ 12; decide⟩ ?_ rfl rfl d5.pure, d5.mono (by omega)⟩
  show (evSs _ b__law_right [some (.obj 0), none, none, none, none, none, none, none, none, none, none, none] [.lst xs]).res = _
  rw [right_is, evSs_cons, a1, next_nx, evSs_cons, a2, next_nx, evSs_cons, a3, next_nx, evSs_cons, a4, next_nx, evSs_cons, a5, next_nx, evSs_cons, a6, next_nx, evSs_cons, a7, next_nx, evSs_cons, a8, next_nx, evSs_cons, a9, next_nx, evSs_cons, a10, next_nx, evSs_cons, a11, next_nx, a12]
end
end K58
end
section
set_option Elab.async false
set_option linter.all false
set_option maxRecDepth 100000
set_option maxHeartbeats 1000000
set_option exponentiation.threshold 20000
/-! K58zc: the law of k58. -/
namespace K58
open PySem Mi
section
variable {n m c : Nat} {M G : Mem} {p q bs : Rat} {qs : List Rat} {r : List Nat} {xs : List D} {b : Nat}
def six : List Rat := [⟨1, 2, by decide, by decide⟩, ⟨1, 3, by decide, by decide⟩, ⟨1, 6, by decide, by decide⟩]
def two : List Rat := [⟨2, 3, by decide, by decide⟩, ⟨1, 3, by decide, by decide⟩]
theorem six_ok : Shares six := ⟨by decide, by decide, by decide, by decide, by decide, by decide +kernel⟩
theorem two_ok : Shares two := ⟨by decide, by decide, by decide, by decide, by decide, by decide +kernel⟩
theorem v1 : bst six [0, 1, 0, 2, 1, 0] 6 = half := by decide +kernel
theorem v2 : offs six ([0, 1, 0].take 2) = [0, ⟨1, 3, by decide, by decide⟩, ⟨-1, 3, by decide, by decide⟩] := by decide +kernel
theorem v4 : bst two [1] 1 = ⟨2, 3, by decide, by decide⟩ := by decide +kernel
theorem v5 : decide (bst two [0, 1, 0] 3 ≤ ⟨1, 3, by decide, by decide⟩) = true := by decide +kernel
theorem v6 : decide (bst two [1] 1 ≤ bnd 2) = false := by decide +kernel
theorem v7 : decide (bst six [] 0 ≤ 0) = true := by decide +kernel
theorem py_o {a k : Nat} {ps : List PyData} (ha : M[a]? = some (.lst xs)) (h : xs.mapM (py M k) = some ps) : py M (k + 1) (.obj a) = some (.list ps) := by
  show (match M[a]? with
    | some (.lst xs) => (xs.mapM (py M k)).map PyData.list
    | _ => none) = _
  rw [ha]
  show (xs.mapM (py M k)).map PyData.list = _
  rw [h]
  rfl
theorem eq_same {a a2 : Nat} {ps : List PyData} (ha : M[a]? = some (.lst xs)) (hb : M[a2]? = some (.lst xs)) (h : xs.mapM (py M 8) = some ps) (he : PyData.eqv (.list ps) (.list ps) = true) : cmpop .Eq (.obj a) (.obj a2) M = .ok (.bl true) M := by
  show ofOpt ((((py M 9 (.obj a)).bind fun p => (py M 9 (.obj a2)).map fun q => PyData.eqv p q)).map D.bl) M = _
  rw [py_o ha h, py_o hb h]
  show ofOpt (some (D.bl (PyData.eqv (.list ps) (.list ps)))) M = _
  rw [he]
  rfl
def l1 : List D := [fr half, .tup ([0, ⟨1, 3, by decide, by decide⟩, ⟨-1, 3, by decide, by decide⟩].map fr), .tup [.int 2, .int 1, .int 0], fr ⟨2, 3, by decide, by decide⟩]
def l2 : List D := [.bl true, .bl false, .bl true]
def ps : List PyData := [.tuple [.int 1, .int 2], .tuple [.tuple [.int 0, .int 1], .tuple [.int 1, .int 3], .tuple [.int (-1), .int 3]], .tuple [.int 2, .int 1, .int 0], .tuple [.int 2, .int 3], .bool true, .bool false, .bool true]
theorem ps_is : (l1 ++ l2).mapM (py M 8) = some ps := rfl
theorem ps_eq : PyData.eqv (.list ps) (.list ps) = true := by decide +kernel
theorem bl_len_scr {ns : List Int} : blt .len [scr ns] M = .ok (.int (ns.length : Nat)) M := by
  show Res.ok (D.int ((ns.map D.int).length : Nat)) M = _
  rw [List.length_map]
theorem turns {ns : List Int} {o1 o3 : Option D} (hm : 9 ≤ m) (hM : M[b]? = some (.lst xs)) (hd : Dice 0 xs) : ∃ o M', evS (run fs m) (.fr (.nm 3) (.rng1 (.con (.int 4))) (.cons (.ife (.not (.tst (.call i__law_right (.cons (.var 2) .nil)))) (.cons (.ret (.con (.bl false))) .nil) .nil) .nil)) [some (scr ns), o1, some (.obj b), o3, none, none, none] M = .nx [some (scr ns), o1, some (.obj b), o, none, none, none] M' := by
  obtain ⟨ρ', M', e1, o, hρ, xs', e2, e3⟩ := fr_rule (F := run fs m) (t := .nm 3) (it := .rng1 (.con (.int 4))) (b := (.cons (.ife (.not (.tst (.call i__law_right (.cons (.var 2) .nil)))) (.cons (.ret (.con (.bl false))) .nil) .nil) .nil)) (ρ := [some (scr ns), o1, some (.obj b), o3, none, none, none]) (M := M) (M1 := M) (sr := .rng 0 4) (ys := rngL 0 4)
    (fun i ρ M => ∃ o, ρ = [some (scr ns), o1, some (.obj b), o, none, none, none] ∧ ∃ xs, M[b]? = some (.lst xs) ∧ Dice (145 * i) xs)
    (by
      have := rng1_nat (k := 4) (by rw [lim]; decide)
      simp only [evI_rng1, evE_con, bind_ok]
      rw [show (4 : Int) = ((4 : Nat) : Int) from rfl, this]
      rfl) (fun i ρ M _ h => at_rng) (by rw [rngL_len, lim]; decide) ⟨o3, rfl, xs, hM, hd⟩ (fun i d ρ M hd' ⟨o, hρ, xs, hM, hd⟩ => by
      subst hρ
      obtain ⟨hi, rfl⟩ := rngL_get hd'
      obtain ⟨xs', a1, a2⟩ := s_right (n := m) hm hM hd (Nat.le_trans (show 145 * i ≤ 1000 by omega) (by decide +kernel))
      have hlt := (List.getElem?_eq_some_iff.mp hM).1
      refine ⟨[some (scr ns), o1, some (.obj b), some (.int (0 + (i : Int))), none, none, none], _, M.set b (.lst xs'), by simp, .inl ?_, some (.int (0 + (i : Int))), rfl, xs', List.getElem?_set_self hlt, a2.mono (by omega)⟩
      simp only [evSs_cons, evSs_nil, evS_ife, evE_not, evE_tst, evE_call, evEs_cons, evEs_nil, evE_var, List.getElem?_cons_succ, List.getElem?_cons_zero, getV_some, bind_ok, a1, truth_bl, Option.map_some, ofOpt_some, test_bl, Bool.not_true, out_ok, Bool.false_eq_true, if_false, next_nx])
  subst hρ
  exact ⟨o, M', e1⟩
theorem spots {ns : List Int} (hm : 9 ≤ m) (hn : ns.length ≤ 63) : ∃ o1 o2 o3 M', evS (run fs m) (.fr (.nm 1) (.rng1 (.blt .max (.cons (.con (.int 1)) (.cons (.blt .min (.cons (.con (.int 5)) (.cons (.blt .len (.cons (.var 0) .nil)) .nil))) .nil)))) (.cons (.asg (.nm 2) (.call i__law_dice (.cons (.var 0) (.cons (.var 1) .nil)))) (.cons (.fr (.nm 3) (.rng1 (.con (.int 4))) (.cons (.ife (.not (.tst (.call i__law_right (.cons (.var 2) .nil)))) (.cons (.ret (.con (.bl false))) .nil) .nil) .nil)) .nil))) [some (scr ns), none, none, none, none, none, none] [] = .nx [some (scr ns), o1, o2, o3, none, none, none] M' := by
  obtain ⟨N, hN, hN2⟩ : ∃ N : Nat, (if (if (ns.length : Int) < 5 then (ns.length : Int) else 5) > 1 then (if (ns.length : Int) < 5 then (ns.length : Int) else 5) else 1) = (N : Int) ∧ N ≤ 5 := by
    refine ⟨(if (if (ns.length : Int) < 5 then (ns.length : Int) else 5) > 1 then (if (ns.length : Int) < 5 then (ns.length : Int) else 5) else 1).toNat, ?_, ?_⟩ <;> split <;> split <;> omega
  obtain ⟨ρ', M', e1, o1, o2, o3, hρ⟩ := fr_rule (F := run fs m) (t := .nm 1) (it := .rng1 (.blt .max (.cons (.con (.int 1)) (.cons (.blt .min (.cons (.con (.int 5)) (.cons (.blt .len (.cons (.var 0) .nil)) .nil))) .nil)))) (b := (.cons (.asg (.nm 2) (.call i__law_dice (.cons (.var 0) (.cons (.var 1) .nil)))) (.cons (.fr (.nm 3) (.rng1 (.con (.int 4))) (.cons (.ife (.not (.tst (.call i__law_right (.cons (.var 2) .nil)))) (.cons (.ret (.con (.bl false))) .nil) .nil) .nil)) .nil))) (ρ := [some (scr ns), none, none, none, none, none, none]) (M := []) (M1 := []) (sr := .rng 0 N) (ys := rngL 0 N)
    (fun i ρ M => ∃ o1 o2 o3, ρ = [some (scr ns), o1, o2, o3, none, none, none])
    (by
      have := rng1_nat (k := N) (by rw [lim]; omega)
      simp only [evI_rng1, evE_blt, evEs_cons, evEs_nil, evE_con, evE_var, List.getElem?_cons_zero, getV_some, bind_ok, bl_len_scr, bl_min, bl_max, hN, this, ofOpt_some]) (fun i ρ M _ h => at_rng) (by rw [rngL_len, lim]; omega) ⟨none, none, none, rfl⟩ (fun i d ρ M hd' ⟨o1, o2, o3, hρ⟩ => by
      subst hρ
      obtain ⟨hi, rfl⟩ := rngL_get hd'
      rw [Int.zero_add]
      obtain ⟨xs, a1, a2⟩ := s_dice (fs := fs) (i := i__law_dice) (n := m) rfl (by omega) ns i M (by omega)
      obtain ⟨o, M2, a3⟩ := turns (m := m) (ns := ns) (o1 := some (.int i)) (o3 := o3) (M := M ++ [.lst xs]) (b := M.length) hm (by simp) a2
      refine ⟨[some (scr ns), some (.int i), o2, o3, none, none, none], _, M2, by simp, .inl ?_, some (.int i), some (.obj M.length), o, rfl⟩
      have a4 : evS (run fs m) (.asg (.nm 2) (.call i__law_dice (.cons (.var 0) (.cons (.var 1) .nil)))) [some (scr ns), some (.int i), o2, o3, none, none, none] M = .nx [some (scr ns), some (.int i), some (.obj M.length), o3, none, none, none] (M ++ [.lst xs]) := by
        simp only [evS_asg, evE_call, evEs_cons, evEs_nil, evE_var, List.getElem?_cons_succ, List.getElem?_cons_zero, getV_some, bind_ok, a1, out_ok]
        rfl
      rw [evSs_cons, a4, next_nx, evSs_cons, a3, next_nx, evSs_nil])
  subst hρ
  exact ⟨o1, o2, o3, M', e1⟩
def ts : E := .tup (.cons (.tup (.cons (.tup (.cons (.con (.int 1)) (.cons (.con (.int 2)) .nil))) (.cons (.tup (.cons (.con (.int 1)) (.cons (.con (.int 3)) .nil))) (.cons (.tup (.cons (.con (.int 1)) (.cons (.con (.int 6)) .nil))) .nil)))) (.cons (.tup (.cons (.tup (.cons (.con (.int 2)) (.cons (.con (.int 3)) .nil))) (.cons (.tup (.cons (.con (.int 1)) (.cons (.con (.int 3)) .nil))) .nil))) .nil))
def row6 : E := .tup (.cons (.con (.int 0)) (.cons (.con (.int 1)) (.cons (.con (.int 0)) (.cons (.con (.int 2)) (.cons (.con (.int 1)) (.cons (.con (.int 0)) .nil))))))
def row3 : E := .tup (.cons (.con (.int 0)) (.cons (.con (.int 1)) (.cons (.con (.int 0)) .nil)))
def row1 : E := .tup (.cons (.con (.int 1)) .nil)
def third : E := .tup (.cons (.con (.int 1)) (.cons (.con (.int 3)) .nil))
def zeroE : E := .tup (.cons (.con (.int 0)) (.cons (.con (.int 1)) .nil))
def wants : Es := (.cons (.tup (.cons (.con (.int 1)) (.cons (.con (.int 2)) .nil))) (.cons (.tup (.cons (.tup (.cons (.con (.int 0)) (.cons (.con (.int 1)) .nil))) (.cons (.tup (.cons (.con (.int 1)) (.cons (.con (.int 3)) .nil))) (.cons (.tup (.cons (.neg (.con (.int 1))) (.cons (.con (.int 3)) .nil))) .nil)))) (.cons (.tup (.cons (.con (.int 2)) (.cons (.con (.int 1)) (.cons (.con (.int 0)) .nil)))) (.cons (.tup (.cons (.con (.int 2)) (.cons (.con (.int 3)) .nil))) (.cons (.con (.bl true)) (.cons (.con (.bl false)) (.cons (.con (.bl true)) .nil)))))))
def tail : Ss := .cons (.asg (.tup [.nm 4, .nm 5]) ts) (.cons (.asg (.nm 6) (.lst (.cons (.call i_off_of (.cons (.var 4) (.cons row6 .nil))) (.cons (.call i_off_at (.cons (.var 4) (.cons row3 (.cons (.con (.int 2)) .nil)))) (.cons (.call i_counts_of (.cons (.var 4) (.cons row3 .nil))) (.cons (.call i_off_of (.cons (.var 5) (.cons row1 .nil))) .nil)))))) (.cons (.asg (.nm 6) (.bin .Add (.var 6) (.lst (.cons (.call i_keeps_within (.cons (.var 5) (.cons row3 (.cons third .nil)))) (.cons (.call i_is_spread (.cons (.var 5) (.cons row1 .nil))) (.cons (.call i_keeps_within (.cons (.var 4) (.cons (.tup .nil) (.cons zeroE .nil)))) .nil)))))) (.cons (.ret (.cmp .Eq (.var 6) (.lst wants))) .nil)))
theorem law_is : b_law = .cons (.fr (.nm 1) (.rng1 (.blt .max (.cons (.con (.int 1)) (.cons (.blt .min (.cons (.con (.int 5)) (.cons (.blt .len (.cons (.var 0) .nil)) .nil))) .nil)))) (.cons (.asg (.nm 2) (.call i__law_dice (.cons (.var 0) (.cons (.var 1) .nil)))) (.cons (.fr (.nm 3) (.rng1 (.con (.int 4))) (.cons (.ife (.not (.tst (.call i__law_right (.cons (.var 2) .nil)))) (.cons (.ret (.con (.bl false))) .nil) .nil) .nil)) .nil))) tail := rfl
section
variable {ρ : Mi.Env} {F : Fns}
theorem ts_is : evE F ts ρ M = .ok (.tup [shD six, shD two]) M := by
  unfold ts
  simp [LIM]
  exact ⟨rfl, rfl⟩
theorem row6_is : evE F row6 ρ M = .ok (rowD [0, 1, 0, 2, 1, 0]) M := by
  unfold row6
  simp [LIM]
theorem row3_is : evE F row3 ρ M = .ok (rowD [0, 1, 0]) M := by
  unfold row3
  simp [LIM]
theorem row1_is : evE F row1 ρ M = .ok (rowD [1]) M := by
  unfold row1
  simp [LIM]
theorem row0_is : evE F (.tup .nil) ρ M = .ok (rowD []) M := by
  simp
theorem third_is : evE F third ρ M = .ok (fr ⟨1, 3, by decide, by decide⟩) M := by
  unfold third
  simp [LIM]
  rfl
theorem zero_is : evE F zeroE ρ M = .ok (fr 0) M := zero_tup
theorem wants_is : evEs F wants ρ M = .ok (l1 ++ l2) M := by
  unfold wants
  simp [LIM]
  rfl
end
theorem tail_ok {s o1 o2 o3 : Option D} (hm : 8 ≤ m) : ∃ M', (evSs (run fs m) tail [s, o1, o2, o3, none, none, none] M).res = .ok (.bl true) M' := by
  have c1 := s_off_of (n := m) (M := M) (r := [0, 1, 0, 2, 1, 0]) hm six_ok ⟨by decide, by decide⟩
  have c2 := s_off_at (n := m) (M := M) (r := [0, 1, 0]) (k := 2) hm six_ok ⟨by decide, by decide⟩ (by decide)
  have c3 := s_counts_of (n := m) (M := M) (r := [0, 1, 0]) hm six_ok ⟨by decide, by decide⟩
  have c4 := s_off_of (n := m) (M := M) (r := [1]) hm two_ok ⟨by decide, by decide⟩
  have c5 := s_keeps_within (n := m) (M := M ++ [.lst l1]) (r := [0, 1, 0]) (b := ⟨1, 3, by decide, by decide⟩) hm two_ok ⟨by decide, by decide⟩ (by decide) (by decide) (by decide)
  have c6 := s_is_spread (n := m) (M := M ++ [.lst l1]) (r := [1]) hm two_ok ⟨by decide, by decide⟩
  have c7 := s_keeps_within (n := m) (M := M ++ [.lst l1]) (r := []) (b := 0) hm six_ok ⟨by decide, by decide⟩ (by decide) (by decide) (by decide)
  have w1 := v1
  have w4 := v4
  have w5 := v5
  have w6 := v6
  have w7 := v7
  simp only [List.length_cons, List.length_nil, Nat.zero_add, Nat.reduceAdd] at c1 c4 c5 c6 c7
  rw [v1] at c1
  rw [v2] at c2
  rw [v4] at c4
  rw [v5] at c5
  rw [show two.length = 2 from rfl, v6] at c6
  rw [v7] at c7
  have c2' : run fs m i_off_at [shD six, rowD [0, 1, 0], .int 2] M = .ok (.tup (([0, ⟨1, 3, by decide, by decide⟩, ⟨-1, 3, by decide, by decide⟩] : List Rat).map fr)) M := c2
  have t1 : evS (run fs m) (.asg (.tup [.nm 4, .nm 5]) ts) [s, o1, o2, o3, none, none, none] M = .nx [s, o1, o2, o3, some (shD six), some (shD two), none] M := by
    rw [evS_asg, ts_is, out_ok]
    rfl
  have t2 : evS (run fs m) (.asg (.nm 6) (.lst (.cons (.call i_off_of (.cons (.var 4) (.cons row6 .nil))) (.cons (.call i_off_at (.cons (.var 4) (.cons row3 (.cons (.con (.int 2)) .nil)))) (.cons (.call i_counts_of (.cons (.var 4) (.cons row3 .nil))) (.cons (.call i_off_of (.cons (.var 5) (.cons row1 .nil))) .nil)))))) [s, o1, o2, o3, some (shD six), some (shD two), none] M = .nx [s, o1, o2, o3, some (shD six), some (shD two), some (.obj M.length)] (M ++ [.lst l1]) := by
    rw [evS_asg, evE_lst]
    simp only [evEs_cons, evEs_nil, evE_call, evE_var, evE_con, List.getElem?_cons_succ, List.getElem?_cons_zero, getV_some, bind_ok, row6_is, row3_is, row1_is, c1, c2', c3, c4, List.length_cons, List.length_nil]
    rw [if_pos (by decide)]
    rfl
  have t3 : evS (run fs m) (.asg (.nm 6) (.bin .Add (.var 6) (.lst (.cons (.call i_keeps_within (.cons (.var 5) (.cons row3 (.cons third .nil)))) (.cons (.call i_is_spread (.cons (.var 5) (.cons row1 .nil))) (.cons (.call i_keeps_within (.cons (.var 4) (.cons (.tup .nil) (.cons zeroE .nil)))) .nil)))))) [s, o1, o2, o3, some (shD six), some (shD two), some (.obj M.length)] (M ++ [.lst l1]) = .nx [s, o1, o2, o3, some (shD six), some (shD two), some (.obj (M.length + 2))] (M ++ [.lst l1] ++ [.lst l2] ++ [.lst (l1 ++ l2)]) := by
    have e1 : evE (run fs m) (.lst (.cons (.call i_keeps_within (.cons (.var 5) (.cons row3 (.cons third .nil)))) (.cons (.call i_is_spread (.cons (.var 5) (.cons row1 .nil))) (.cons (.call i_keeps_within (.cons (.var 4) (.cons (.tup .nil) (.cons zeroE .nil)))) .nil)))) [s, o1, o2, o3, some (shD six), some (shD two), some (.obj M.length)] (M ++ [.lst l1]) = .ok (.obj (M.length + 1)) (M ++ [.lst l1] ++ [.lst l2]) := by
      rw [evE_lst]
      simp only [evEs_cons, evEs_nil, evE_call, evE_var, evE_con, List.getElem?_cons_succ, List.getElem?_cons_zero, getV_some, bind_ok, row3_is, row1_is, row0_is, third_is, zero_is, c5, c6, c7, List.length_cons, List.length_nil]
      rw [if_pos (by decide)]
      show Res.ok (D.obj (M ++ [MO.lst l1]).length) _ = _
      rw [List.length_append]
      rfl
    have e2 : binop .Add (.obj M.length) (.obj (M.length + 1)) (M ++ [.lst l1] ++ [.lst l2]) = .ok (.obj (M.length + 2)) (M ++ [.lst l1] ++ [.lst l2] ++ [.lst (l1 ++ l2)]) := by
      have g1 : (M ++ [.lst l1] ++ [.lst l2])[M.length]? = some (.lst l1) := by simp
      have g2 : (M ++ [.lst l1] ++ [.lst l2])[M.length + 1]? = some (.lst l2) := by simp
      unfold binop
      simp only [g1, g2]
      rw [if_pos ⟨trivial, by decide⟩]
      show Res.ok (D.obj (M ++ [MO.lst l1] ++ [MO.lst l2]).length) _ = _
      rw [List.length_append, List.length_append]
      rfl
    rw [evS_asg, evE_bin, evE_var]
    simp only [List.getElem?_cons_succ, List.getElem?_cons_zero, getV_some, bind_ok, e1, e2, out_ok]
    rfl
  have e1 : evE (run fs m) (.lst wants) [s, o1, o2, o3, some (shD six), some (shD two), some (.obj (M.length + 2))] (M ++ [.lst l1] ++ [.lst l2] ++ [.lst (l1 ++ l2)]) = .ok (.obj (M.length + 3)) (M ++ [.lst l1] ++ [.lst l2] ++ [.lst (l1 ++ l2)] ++ [.lst (l1 ++ l2)]) := by
    rw [evE_lst, wants_is, bind_ok, if_pos (by decide)]
    show Res.ok (D.obj (M ++ [MO.lst l1] ++ [MO.lst l2] ++ [MO.lst (l1 ++ l2)]).length) _ = _
    rw [List.length_append, List.length_append, List.length_append]
    rfl
  have e2 := eq_same (M := M ++ [.lst l1] ++ [.lst l2] ++ [.lst (l1 ++ l2)] ++ [.lst (l1 ++ l2)]) (a := M.length + 2) (a2 := M.length + 3) (xs := l1 ++ l2) (by simp) (by simp) ps_is ps_eq
  refine ⟨M ++ [.lst l1] ++ [.lst l2] ++ [.lst (l1 ++ l2)] ++ [.lst (l1 ++ l2)], ?_⟩
  unfold tail
  rw [evSs_cons, t1, next_nx, evSs_cons, t2, next_nx, evSs_cons, t3, next_nx, evSs_cons, evS_ret, evE_cmp, evE_var]
  simp only [List.getElem?_cons_succ, List.getElem?_cons_zero, getV_some, bind_ok, e1, e2, out_ok, next_ret, res_ret]
theorem the_law (ns : List Int) (hn : ns.length ≤ 63) : ∃ M, run fs 12 i_law [scr ns] [] = .ok (.bl true) M := by
  obtain ⟨o1, o2, o3, M1, e1⟩ := spots (m := 11) (ns := ns) (by decide) hn
  obtain ⟨M2, e2⟩ := tail_ok (m := 11) (s := some (scr ns)) (o1 := o1) (o2 := o2) (o3 := o3) (M := M1) (by decide)
  refine ⟨[], run_pp (fd := fd_law) (G := M2) rfl ⟨rfl, by show 1 ≤ 7; decide⟩ ?_ ?_ rfl⟩
  · rw [pure_cons, show scr ns = .rol (ns.map D.int) from rfl, pure_rol, pure_ints]
    rfl
  · show (evSs _ b_law [some (scr ns), none, none, none, none, none, none] []).res = _
    rw [law_is, evSs_cons, e1, next_nx, e2]
end
end K58
end
section
set_option Elab.async false
set_option linter.all false
set_option maxRecDepth 100000
set_option maxHeartbeats 0
namespace K58
open PySem PySem.Spec PyProof.Rows L2 Mi
def lo0 : List PySem.Str := ["SeatError", "InvalidShares", "InvalidRow", "InvalidOperation", "InvalidNumber", "FAR", "PAIR_SIZE", "is_whole", "is_near", "is_within", "is_pair", "require_number", "common_divisor", "fraction", "plus", "minus", "times", "is_less", "is_at_most", "is_fraction", "is_near_fraction", "added", "MOST_BOUND", "MOST_SHARES", "LEAST_SHARES", "ONE", "is_shares_in", "require_shares", "MOST_ROW", "ZERO"]
def lo1 : List PySem.Str := ["is_row_in", "counts_in", "offs_in", "row_off_in", "bound_in", "require_spread_row", "counts_of", "off_at", "off_of", "keeps_within", "is_spread", "_law_dice", "_law_roll", "_law_divisor", "_law_fraction", "_law_fr_plus", "_law_fr_times", "_law_fr_less", "_law_shares", "_law_re_minus", "_law_sp_offs", "_law_sp_off", "_law_sp_bound", "_law_row", "_law_right"]
abbrev loose : List PySem.Str := lo0 ++ lo1
abbrev R : PySem.W.OpenRow := PySem.W.OpenLaw.row PySem.Challenge.rw_seatsdue_k58_whole_offs_of_rows
abbrev hk : PySem.W.Hook := hookM 4 ds cs
def ob (s : PySem.W.SharedT) : He.AlD := obsMG 4 ds cs (HandSHeadRun.getT s)
theorem ob_eq (s : PySem.W.SharedT) : ob s = hk.obs s.abs := obsMG_eq (HandSHeadRun.getT_eq s)
theorem run (w : World) : HandSHeadRun.RunEq R (PySem.W.view R.prog [60]) hk ob 4000 loose w := by
  intro os
  kernel_rfl
end K58
open PySem PySem.W PySem.Calls PyProof.Rows
theorem K58_holds_of {k : Nat} (hr : L2.Room k callerA) (law : ∀ ns : List Int, ns.length ≤ 63 → ∃ M, Mi.run K58.fs k K58.i_law [Mi.scr ns] [] = .ok (.bl true) M) : PySem.Challenge.rw_seatsdue_k58_whole_offs_of_rows.Holds := by
  w_on; o_law
  refine HandSHeadRun.head_any (r := OpenLaw.row PySem.Challenge.rw_seatsdue_k58_whole_offs_of_rows) (q := view (OpenLaw.row PySem.Challenge.rw_seatsdue_k58_whole_offs_of_rows).prog [60]) (H := K58.hk) (ob := K58.ob) (M := 4000) (loose := K58.loose) (d := HandSHeadRun.topDef (OpenLaw.row PySem.Challenge.rw_seatsdue_k58_whole_offs_of_rows).prog 60) (kwd := []) K58.ob_eq
    (by kernel_rfl) (fun s => by kernel_rfl) K58.run (by kernel_rfl) (by kernel_rfl) (by kernel_rfl) (by rfl) (by first | assumption | decide +kernel) (by decide +kernel) ⟨rfl, rfl, rfl, rfl, rfl, by decide +kernel⟩ ?hw ?hc
  case hw => w_witness2
  case hc => exact Mi.walk_M (l := PySem.Challenge.rw_seatsdue_k58_whole_offs_of_rows) (n := 63) (k := k) (i := K58.i_law) (ds := K58.ds) (cs := K58.cs) (fs := K58.fs) (dl := K58.df_law) (x := "script") rfl (by decide) (by kernel_rfl) hr (by kernel_rfl) rfl rfl K58.okAll (fun w h Y => Y) K58.bdAll law
end
theorem PySem.Challenge.cw_seatsdue_k58_whole_offs_of_rows_holds : PySem.Challenge.rw_seatsdue_k58_whole_offs_of_rows.Holds :=
  K58_holds_of (k := 12) ⟨rfl, by decide +kernel, by decide +kernel⟩ K58.the_law
