import PyProof.Rows.All
import PySem.Str
import Wide.All
import OpenK.AllK
import Wide.FinOn
import HandS.ForMost
import HandS.Style
import HandS.DictTup
import KE.KDictCopyH
import KE.KDictList
import HandS.TupAny
import HandS.TupMul
import HandS.Conv
import KE.SortData
import KE.DataMinMax
import KE.DataAny
import KE.DataCmp
import HandS.Iter
import HandS.Zip
import HandS.RevRange
import KE.GoesMore
import HandS.IsInst
import HandS.ReplaceList
import HandS.ReplaceLit
import HandS.StrMore
import HandS.Codes
import KE.IntTextLaws
import HandS.Strs
import KE.KTupSum
import HandS.Defaults
import HandS.SortKw
import HandS.Gcd
import KE.KMathGC
import PyProof.PassesOwn
import HandS.Ends
import HandS.HeadEnd
import HandS.HeadHook2
import HandS.Head3
import KE.KStateDown
import HandS.Head0
import HandS.Head1
import HandS.Head2
import HandS.HeadHook1
import PySem.Challenge.RW_turnabout_k02_sorting_sorting
section
set_option autoImplicit false
set_option Elab.async false
/-! Ev: an own small language of the program's defs, its plain data, and its runner. -/
namespace Ev
open PySem (Str)

/-- plain data: tuples are values, lists, dicts, sets and instances stand in the store -/
inductive D where
  | non | bl (b : Bool) | int (i : Int) | str (s : Str) | tup (xs : List D) | ref (l : Nat) | fn (i : Nat) | rol (ns : List Int)
/-- a thing of the store -/
inductive O where
  | lst (xs : List D) | dct (kvs : List (D × D)) | lck (kvs : List (D × D)) | dcT (kvs : List (D × D)) | lcT (kvs : List (D × D)) | set (xs : List D) | ins (c : Nat) (fs : List (Nat × D))
abbrev Sto := List O
abbrev Env := List (Option D)

def sEq (a b : Str) : Bool := a.cps.toList == b.cps.toList
mutual
/-- Python's == on plain data -/
def D.eqv : D → D → Bool
  | .non, y => (match y with | .non => true | _ => false)
  | .bl a, y => (match y with | .bl b => a == b | .int j => (if a then 1 else 0) == j | _ => false)
  | .int i, y => (match y with | .bl b => i == (if b then 1 else 0) | .int j => i == j | _ => false)
  | .str a, y => (match y with | .str b => sEq a b | _ => false)
  | .tup xs, y => (match y with | .tup ys => D.eqvL xs ys | _ => false)
  | .ref _, _ => false
  | .fn _, _ => false
  | .rol _, _ => false
def D.eqvL : List D → List D → Bool
  | [], ys => (match ys with | [] => true | _ :: _ => false)
  | x :: xs, ys => (match ys with | [] => false | y :: ys => D.eqv x y && D.eqvL xs ys)
end
mutual
/-- the same datum, to the kind -/
def D.beq : D → D → Bool
  | .non, y => (match y with | .non => true | _ => false)
  | .bl a, y => (match y with | .bl b => a == b | _ => false)
  | .int i, y => (match y with | .int j => i == j | _ => false)
  | .str a, y => (match y with | .str b => sEq a b | _ => false)
  | .tup xs, y => (match y with | .tup ys => D.beqL xs ys | _ => false)
  | .ref i, y => (match y with | .ref j => i == j | _ => false)
  | .fn i, y => (match y with | .fn j => i == j | _ => false)
  | .rol a, y => (match y with | .rol b => a == b | _ => false)
def D.beqL : List D → List D → Bool
  | [], ys => (match ys with | [] => true | _ :: _ => false)
  | x :: xs, ys => (match ys with | [] => false | y :: ys => D.beq x y && D.beqL xs ys)
end
mutual
/-- plain through and through, at most so deep -/
def D.pl : Nat → D → Bool
  | _, .ref _ => false
  | _, .fn _ => false
  | _, .rol _ => false
  | k, .tup xs => (match k with | 0 => false | k + 1 => D.plL k xs)
  | _, .non => true
  | _, .bl _ => true
  | _, .int _ => true
  | _, .str _ => true
def D.plL : Nat → List D → Bool
  | _, [] => true
  | k, x :: xs => D.pl k x && D.plL k xs
end
def D.plain (d : D) : Bool := D.pl 60 d
def D.plainL (ds : List D) : Bool := D.plL 60 ds
/-- a key: an int or a text -/
def D.simple : D → Bool
  | .int _ => true
  | .str _ => true
  | _ => false
mutual
/-- all places of the store in it are below n -/
def D.low (n : Nat) : D → Bool
  | .ref l => decide (l < n)
  | .tup xs => D.lowL n xs
  | _ => true
def D.lowL (n : Nat) : List D → Bool
  | [] => true
  | x :: xs => D.low n x && D.lowL n xs
end
def lexN : List Nat → List Nat → Bool
  | [], ys => (match ys with | [] => false | _ :: _ => true)
  | x :: xs, ys => (match ys with | [] => false | y :: ys => if x == y then lexN xs ys else Nat.blt x y)
mutual
/-- Python's < on data of one make; none where the kinds part -/
def D.lt : D → D → Option Bool
  | .bl a, y => (match y with | .bl b => some (!a && b) | _ => none)
  | .int i, y => (match y with | .int j => some (decide (i < j)) | _ => none)
  | .str a, y => (match y with | .str b => some (lexN a.cps.toList b.cps.toList) | _ => none)
  | .tup xs, y => (match y with | .tup ys => D.ltL xs ys | _ => none)
  | _, _ => none
def D.ltL : List D → List D → Option Bool
  | [], ys => (match ys with | [] => some false | _ :: _ => some true)
  | x :: xs, ys => (match ys with
    | [] => some false
    | y :: ys => if D.eqv x y then D.ltL xs ys else D.lt x y)
end
mutual
/-- the two can be compared, place by place -/
def D.alike : D → D → Bool
  | .non, y => (match y with | .non => true | _ => false)
  | .bl _, y => (match y with | .bl _ => true | _ => false)
  | .int _, y => (match y with | .int _ => true | _ => false)
  | .str _, y => (match y with | .str _ => true | _ => false)
  | .tup xs, y => (match y with | .tup ys => D.alikeL xs ys | _ => false)
  | .ref _, _ => false
  | .fn _, _ => false
  | .rol _, _ => false
def D.alikeL : List D → List D → Bool
  | [], _ => true
  | x :: xs, ys => (match ys with | [] => true | y :: ys => D.alike x y && D.alikeL xs ys)
end
def D.isInt : D → Bool
  | .int _ => true
  | _ => false
def D.isStr : D → Bool
  | .str _ => true
  | _ => false
def D.isInts : D → Bool
  | .tup xs => xs.all D.isInt
  | _ => false
def alikeTo (x : D) : List D → Bool
  | [] => true
  | y :: ys => D.alike x y && D.alike y x && alikeTo x ys
def alikeAll : List D → Bool
  | [] => true
  | x :: xs => D.alike x x && alikeTo x xs && alikeAll xs
def D.isNon : D → Bool
  | .non => true
  | _ => false
/-- all can be compared with all -/
def uniform (xs : List D) : Bool := D.plainL xs && (xs.all D.isInt || xs.all D.isStr || xs.all D.isInts || (alikeAll xs && xs.all fun x => !D.isNon x))
def D.isTup1 : D → Bool
  | .tup xs => (match xs with | [] => false | _ :: _ => true)
  | _ => false
def D.isTup : D → Bool
  | .tup _ => true
  | _ => false
def cmpOk (x y : D) : Bool := D.plain x && D.plain y && D.alike x y && D.alike y x && !D.isNon x
def ltR (x y : D) : Option Bool := if cmpOk x y then D.lt x y else none
def gtR (x y : D) : Option Bool := if cmpOk x y then D.lt y x else none
def pairBelow (n : Nat) : List (D × D) → Bool
  | [] => true
  | p :: r => D.low n p.1 && D.low n p.2 && pairBelow n r
def O.low (n : Nat) : O → Bool
  | .lst xs => D.lowL n xs
  | .dct kvs => pairBelow n kvs
  | .lck kvs => pairBelow n kvs
  | .dcT kvs => pairBelow n kvs
  | .lcT kvs => pairBelow n kvs
  | .set xs => D.lowL n xs
  | .ins _ fs => fs.all fun p => D.low n p.2
def stBelow (n : Nat) : Sto → Bool
  | [] => true
  | o :: r => O.low n o && stBelow n r
def beqKV : List (D × D) → List (D × D) → Bool
  | [], ys => (match ys with | [] => true | _ :: _ => false)
  | x :: xs, ys => (match ys with | [] => false | y :: ys => D.beq x.1 y.1 && D.beq x.2 y.2 && beqKV xs ys)
def O.beq : O → O → Bool
  | .lst xs, y => (match y with | .lst ys => D.beqL xs ys | _ => false)
  | .dct xs, y => (match y with | .dct ys => beqKV xs ys | _ => false)
  | .lck xs, y => (match y with | .lck ys => beqKV xs ys | _ => false)
  | .dcT xs, y => (match y with | .dcT ys => beqKV xs ys | _ => false)
  | .lcT xs, y => (match y with | .lcT ys => beqKV xs ys | _ => false)
  | .set xs, y => (match y with | .set ys => D.beqL xs ys | _ => false)
  | .ins _ _, _ => false

/-! ### the language -/
inductive Bop where | add | sub | mul | fdiv | mod | pow
inductive Cop where | eq | ne | lt | le | gt | ge | isin | notin | is_ | isnot
inductive Ty where | int | str | tuple | bool | list
inductive Blt where | len | range | tuple | list | set | dict | sorted | min | max | sum | abs | int | str | enumerate | zip | reversed | all | any | ord | factorial | gcd | lcm
inductive Mth where | append | extend | pop | index | count | items | values | keys | get | setdefault | update | join | split | replace | startswith | find | isascii | isdigit | remove | insert
/-- a place that takes a value -/
inductive T where
  | nm (i : Nat) | nil | cons (t r : T)
/-- expressions; nil and cons: rows of arguments; none: left out -/
inductive E where
  | val (a : E) | var (i : Nat) | cst (d : D) | glb (x : Str) (d : D)
  | bin (o : Bop) (a b : E) | neg (a : E) | cmp (o : Cop) (a b : E) | cmp2 (o p : Cop) (a b c : E)
  | and (a b : E) | or (a b : E) | not (a : E) | ifx (c a b : E)
  | tup (es : E) | lst (es : E) | dic (b : Bool) | dc1 (b : Bool) (k v : E) | nil | cons (e r : E) | none
  | idx (a i : E) | slc (a lo hi : E) | rev (a : E)
  | rpl (a : E) (y z : Str) | call (f : Nat) (es : E) | blt (b : Blt) (es : E) | mxd (b : Blt) (a d : E) | vws (o : E) | mth (m : Mth) (o : E) (es : E) | isi (t : Ty) (e : E)
  | lc (vs : List Nat) (t : T) (it c e : E) | lc2 (vs : List Nat) (t : T) (it : E) (t' : T) (it' c e : E) | dc (vs : List Nat) (t : T) (it k v : E)
/-- a place of an assignment of two -/
inductive G where
  | nm (i : Nat) | sub (o i : E)
inductive S where
  | skip | seq (s r : S) | exp (e : E) | ret (e : E) | retn | brk | cnt
  | asg (t : T) (e : E) | sto (o i e : E) | aug (i : Nat) (o : Bop) (e : E) | augs (a i : E) (o : Bop) (e : E)
  | par (i j : Nat) (a b : E) | par3 (i j l : Nat) (a b c : E)
  | mul (t u : G) (a b : E)
  | ife (c : E) (a b : S) | whl (c : E) (b : S) | fr (t : T) (it : E) (b : S) | del (o i : E) | nev

/-! ### the runner -/
structure Exn where
  cls : Nat
  fs : List D
inductive R (α : Type) where
  | no | ok (a : α) (st : Sto) | ex (x : Exn) (st : Sto)
inductive Out where
  | nx (env : Env) | rt (d : D) | bk (env : Env) | ct (env : Env)
@[inline] def R.bind {α β : Type} (r : R α) (f : α → Sto → R β) : R β := match r with
  | .ok a st => f a st
  | .no => .no
  | .ex x st => .ex x st
/-- no exception is looked for -/
@[inline] def R.val {α : Type} (r : R α) : R α := match r with
  | .ok a st => .ok a st
  | .no => .no
  | .ex _ _ => .no
/-- what holds behind it -/
def R.pst {α : Type} (r : R α) (Q : α → Sto → Prop) (Z : Exn → Sto → Prop) : Prop := match r with
  | .ok a st => Q a st
  | .no => False
  | .ex x st => Z x st
def Env.get : Env → Nat → Option D
  | [], _ => none
  | d :: r, i => (match i with | 0 => d | j + 1 => Env.get r j)
def Env.put : Env → Nat → D → Env
  | [], _, _ => []
  | x :: r, i, d => (match i with | 0 => some d :: r | j + 1 => x :: Env.put r j d)
def Env.cut : Env → Nat → Env
  | [], _ => []
  | x :: r, i => (match i with | 0 => Option.none :: r | j + 1 => x :: Env.cut r j)
def Env.wipe (env : Env) : List Nat → Env
  | [] => env
  | v :: vs => Env.cut (Env.wipe env vs) v
def Env.new : Nat → List D → Env
  | 0, _ => []
  | n + 1, ds => (match ds with | [] => Option.none :: Env.new n [] | d :: ds => some d :: Env.new n ds)
def sget : Sto → Nat → Option O
  | [], _ => none
  | o :: r, l => (match l with | 0 => some o | k + 1 => sget r k)
/-- as it is read -/
def sgetR (st : Sto) (l : Nat) : Option O := match sget st l with
  | some (.lck kvs) => some (.dct kvs)
  | some (.lcT kvs) => some (.dcT kvs)
  | o => o
def sput : Sto → Nat → O → Sto
  | [], _, _ => []
  | x :: r, l, o => (match l with | 0 => o :: r | k + 1 => x :: sput r k o)
def slen : Sto → Nat
  | [] => 0
  | _ :: r => slen r + 1
def line : Nat := 16777216
def small (n : Nat) : Bool := Nat.ble n line
def new (o : O) (st : Sto) : R D := .ok (.ref st.length) (st ++ [o])
/-- a target takes a value -/
def T.take : T → D → Env → Option Env
  | .nm i, d, env => some (env.put i d)
  | .nil, d, env => (match d with | .tup xs => (match xs with | [] => some env | _ :: _ => none) | _ => none)
  | .cons t r, d, env => (match d with
    | .tup xs => (match xs with
      | [] => none
      | x :: xs => (match T.take t x env with
        | some env => T.take r (.tup xs) env
        | none => none))
    | _ => none)
def truth (st : Sto) : D → Option Bool
  | .non => some false
  | .bl b => some b
  | .int i => some (i != 0)
  | .str s => if small s.length then some (!s.cps.toList.isEmpty) else none
  | .tup xs => some (!xs.isEmpty)
  | .ref l => (match sgetR st l with
    | some (.lst xs) => some (!xs.isEmpty)
    | _ => none)
  | .fn _ => none
  | .rol _ => none
def rep {α : Type} (xs : List α) : Nat → List α
  | 0 => []
  | n + 1 => xs ++ rep xs n
def mulOk (i j : Int) : Bool := (decide (-18446744073709551616 < i) && decide (i < 18446744073709551616)) || (decide (-18446744073709551616 < j) && decide (j < 18446744073709551616))
def binop (o : Bop) (x y : D) (st : Sto) : R D := match o with
  | .add => (match x with
    | .int i => (match y with | .int j => .ok (.int (i + j)) st | _ => .no)
    | .str a => (match y with | .str b => if small (a.length + b.length) then .ok (.str (a ++ b)) st else .no | _ => .no)
    | .tup xs => (match y with | .tup ys => if small (xs.length + ys.length) then .ok (.tup (xs ++ ys)) st else .no | _ => .no)
    | .ref a => (match y with
      | .ref b => (match sget st a with
        | some (.lst xs) => (match sget st b with
          | some (.lst ys) => if small (xs.length + ys.length) then new (.lst (xs ++ ys)) st else .no
          | _ => .no)
        | _ => .no)
      | _ => .no)
    | _ => .no)
  | .sub => (match x with | .int i => (match y with | .int j => .ok (.int (i - j)) st | _ => .no) | _ => .no)
  | .mul => (match x with
    | .int i => (match y with | .int j => if mulOk i j then .ok (.int (i * j)) st else .no | _ => .no)
    | .ref a => (match y with
      | .int j => (match sget st a with
        | some (.lst xs) => if small (xs.length * j.toNat) && decide (j < 9223372036854775808) && decide (-9223372036854775808 ≤ j) then new (.lst (rep xs j.toNat)) st else .no
        | _ => .no)
      | _ => .no)
    | _ => .no)
  | .fdiv => (match x with | .int i => (match y with | .int j => if j != 0 && decide (j.natAbs < 1073741824) then .ok (.int (i.fdiv j)) st else .no | _ => .no) | _ => .no)
  | .mod => (match x with | .int i => (match y with | .int j => if j != 0 then .ok (.int (i.fmod j)) st else .no | _ => .no) | _ => .no)
  | .pow => (match x with | .int i => (match y with | .int j => if decide (0 ≤ j) && decide (j ≤ 1000000) && decide (i.natAbs < 18446744073709551616) then .ok (.int (i ^ j.toNat)) st else .no | _ => .no) | _ => .no)
def anyEq (x : D) : List D → Bool
  | [] => false
  | y :: ys => D.eqv y x || anyEq x ys
def kvGet (k : D) : List (D × D) → Option D
  | [] => none
  | p :: r => if D.eqv p.1 k then some p.2 else kvGet k r
def kvSet (k v : D) : List (D × D) → List (D × D)
  | [] => []
  | p :: r => (if D.eqv p.1 k then (p.1, v) else p) :: kvSet k v r
def kvPut (k v : D) (kvs : List (D × D)) : List (D × D) := if (kvGet k kvs).isSome then kvSet k v kvs else kvs ++ [(k, v)]
def kvDel (k : D) : List (D × D) → List (D × D)
  | [] => []
  | p :: r => if D.eqv p.1 k then kvDel k r else p :: kvDel k r
def memN (c : Nat) : List Nat → Bool
  | [] => false
  | y :: ys => c == y || memN c ys
def eqR (st : Sto) (x y : D) : Option Bool := match x with
  | .ref a => (match y with
    | .ref b => (match sget st a with
      | some (.lst xs) => (match sget st b with
        | some (.lst ys) => if D.plainL xs && D.plainL ys then some (D.eqvL xs ys) else none
        | _ => none)
      | _ => none)
    | _ => none)
  | _ => if D.plain x && D.plain y then some (D.eqv x y) else none
def inR (st : Sto) (x y : D) : Option Bool := match y with
  | .tup ys => if D.plain x && D.plainL ys then some (anyEq x ys) else none
  | .str b => (match x with | .str a => (match a.cps.toList with | [c] => some (memN c b.cps.toList) | _ => none) | _ => none)
  | .ref l => (match sgetR st l with
    | some (.lst ys) => if D.plain x && D.plainL ys then some (anyEq x ys) else none
    | some (.dct kvs) => if D.simple x then some (kvGet x kvs).isSome else none
    | some (.dcT kvs) => if D.isInts x then some (kvGet x kvs).isSome else none
    | _ => none)
  | _ => none
def isR (x y : D) : Option Bool := match y with
  | .non => some (match x with | .non => true | _ => false)
  | .bl b => some (match x with | .bl c => c == b | _ => false)
  | _ => none
def cmpop (o : Cop) (x y : D) (st : Sto) : Option Bool := match o with
  | .eq => eqR st x y
  | .ne => (match eqR st x y with | some b => some (!b) | none => none)
  | .lt => ltR x y
  | .gt => gtR x y
  | .le => (match gtR x y with | some b => some (!b) | none => none)
  | .ge => (match ltR x y with | some b => some (!b) | none => none)
  | .isin => inR st x y
  | .notin => (match inR st x y with | some b => some (!b) | none => none)
  | .is_ => isR x y
  | .isnot => (match isR x y with | some b => some (!b) | none => none)
/-- x op= y where nothing is written -/
def iop (o : Bop) (x y : D) (st : Sto) : R D := match x with
  | .int i => (match y with
    | .int j => (match o with
      | .add => .ok (.int (i + j)) st
      | .sub => .ok (.int (i - j)) st
      | .mul => if mulOk i j then .ok (.int (i * j)) st else .no
      | .fdiv => if j != 0 && decide (j.natAbs < 1073741824) then .ok (.int (i.fdiv j)) st else .no
      | .mod => if j != 0 then .ok (.int (i.fmod j)) st else .no
      | .pow => .no)
    | _ => .no)
  | .str a => (match y with
    | .str b => (match o with
      | .add => if small (a.length + b.length) then .ok (.str (a ++ b)) st else .no
      | _ => .no)
    | _ => .no)
  | _ => .no
def ofB (st : Sto) : Option Bool → R D
  | some b => .ok (.bl b) st
  | none => .no
/-- the place of a number in a row of n -/
def place (n : Nat) (i : Int) : Option Nat := match i with
  | .ofNat k => if Nat.blt k n then some k else none
  | .negSucc k => if Nat.blt k n then some (n - (k + 1)) else none
def nth {α : Type} : List α → Nat → Option α
  | [], _ => none
  | x :: r, i => (match i with | 0 => some x | j + 1 => nth r j)
def setN {α : Type} : List α → Nat → α → List α
  | [], _, _ => []
  | x :: r, i, y => (match i with | 0 => y :: r | j + 1 => x :: setN r j y)
def at_ {α : Type} (xs : List α) (i : Int) : Option α := match place xs.length i with
  | some k => nth xs k
  | none => none
def item (x i : D) (st : Sto) : R D := match x with
  | .tup xs => (match i with | .int k => (match at_ xs k with | some d => .ok d st | none => .no) | _ => .no)
  | .str s => (match i with | .int k => if small s.length then (match at_ s.cps.toList k with | some c => .ok (.str ⟨#[c]⟩) st | none => .no) else .no | _ => .no)
  | .ref l => (match sgetR st l with
    | some (.lst xs) => (match i with | .int k => (match at_ xs k with | some d => .ok d st | none => .no) | _ => .no)
    | some (.dct kvs) => if D.simple i then (match kvGet i kvs with | some d => .ok d st | none => .no) else .no
    | some (.dcT kvs) => if D.isInts i then (match kvGet i kvs with | some d => .ok d st | none => .no) else .no
    | _ => .no)
  | .rol ns => (match i with | .int k => (match at_ ns k with | some n => .ok (.int n) st | none => .no) | _ => .no)
  | _ => .no
def cutAt (n d : Nat) : Option Int → Nat
  | none => d
  | some v => (match v with
    | .ofNat k => if Nat.blt k n then k else n
    | .negSucc k => n - (k + 1))
def cutL {α : Type} (xs : List α) (lo hi : Option Int) : List α := (xs.drop (cutAt xs.length 0 lo)).take (cutAt xs.length xs.length hi - cutAt xs.length 0 lo)
def cut (x : D) (lo hi : Option Int) (st : Sto) : R D := match x with
  | .tup xs => .ok (.tup (cutL xs lo hi)) st
  | .str s => if small s.length then .ok (.str ⟨(cutL s.cps.toList lo hi).toArray⟩) st else .no
  | .ref l => (match sget st l with
    | some (.lst xs) => new (.lst (cutL xs lo hi)) st
    | _ => .no)
  | _ => .no
def store (x i d : D) (st : Sto) : R Unit := match x with
  | .ref l => (match sget st l with
    | some (.lst xs) => (match i with
      | .int k => (match place xs.length k with
        | some j => .ok () (sput st l (.lst (setN xs j d)))
        | none => .no)
      | _ => .no)
    | some (.dct kvs) => if D.simple i && Nat.blt kvs.length line then .ok () (sput st l (.dct (kvPut i d kvs))) else .no
    | some (.dcT kvs) => if D.isInts i && Nat.blt kvs.length line then .ok () (sput st l (.dcT (kvPut i d kvs))) else .no
    | _ => .no)
  | _ => .no
def intsFrom (a : Int) : Nat → List D
  | 0 => []
  | n + 1 => .int a :: intsFrom (a + 1) n
/-- stable sorting by putting in -/
def insD (x : D) : List D → Option (List D)
  | [] => some [x]
  | y :: ys => (match D.lt y x with
    | some true => (match insD x ys with | some r => some (y :: r) | none => none)
    | some false => some (x :: y :: ys)
    | none => none)
def sortD : List D → Option (List D)
  | [] => some []
  | x :: xs => (match sortD xs with | some r => insD x r | none => none)
/-- what is walked, with the things that it is read off; pr: each item a pair just made -/
structure It where
  items : List D
  src : List (Nat × O)
  pr : Bool
def srcOk (st : Sto) : List (Nat × O) → Bool
  | [] => true
  | p :: r => (match sget st p.1 with | some o => O.beq p.2 o | none => false) && srcOk st r
def itOf (d : D) (st : Sto) : Option It := match d with
  | .tup xs => some ⟨xs, [], false⟩
  | .str s => some ⟨s.cps.toList.map fun c => .str ⟨#[c]⟩, [], false⟩
  | .ref l => (match sget st l with
    | some (.lst xs) => some ⟨xs, [(l, .lst xs)], false⟩
    | some (.lck kvs) => some ⟨kvs.map (·.1), [], false⟩
    | some (.lcT kvs) => some ⟨kvs.map (·.1), [], false⟩
    | _ => none)
  | .rol ns => some ⟨ns.map .int, [], false⟩
  | _ => none
def zipD : List D → List D → List D
  | [], _ => []
  | x :: xs, ys => (match ys with | [] => [] | y :: ys => .tup [x, y] :: zipD xs ys)
def numD (a : Int) : List D → List D
  | [] => []
  | x :: xs => .tup [.int a, x] :: numD (a + 1) xs
def foldI (f : Int → Int → Int) (a : Int) : List D → Option Int
  | [] => some a
  | .int i :: r => foldI f (f a i) r
  | _ :: _ => none
def least (lt : D → D → Option Bool) (m : D) : List D → Option D
  | [] => some m
  | x :: xs => (match lt x m with | some b => least lt (if b then x else m) xs | none => none)
def joinS (sep : List Nat) : List D → Option (List Nat)
  | [] => some []
  | .str s :: r => (match r with
    | [] => some s.cps.toList
    | _ :: _ => (match joinS sep r with | some t => some (s.cps.toList ++ sep ++ t) | none => none))
  | _ :: _ => none
structure Fn where
  ps : Nat
  ns : Nat
  body : S
structure Ev where
  e : E → Env → Sto → R D
  es : E → Env → Sto → R (List D)
  t : E → Env → Sto → R Bool
  i : E → Env → Sto → R It
  s : S → Env → Sto → R Out
def Ev.none : Ev := ⟨fun _ _ _ => .no, fun _ _ _ => .no, fun _ _ _ => .no, fun _ _ _ => .no, fun _ _ _ => .no⟩
/-- what is left of a call: n things stood before it -/
def fin (n : Nat) (d : D) (st : Sto) : R D :=
  if Nat.ble (slen st) n then .ok d st
  else if stBelow n (st.take n) then
    (if D.low n d then .ok d (st.take n)
    else match d with
      | .ref l => (match sget st l with
        | some o => if O.low n o then .ok (.ref n) (st.take n ++ [o]) else .ok d st
        | none => .no)
      | _ => .ok d st)
  else .ok d st
mutual
/-- refs from m on go k further -/
def D.sh (m k : Nat) : D → D
  | .ref l => .ref (if Nat.blt l m then l else l + k)
  | .tup xs => .tup (D.shL m k xs)
  | d => d
def D.shL (m k : Nat) : List D → List D
  | [] => []
  | x :: xs => D.sh m k x :: D.shL m k xs
end
def O.sh (m k : Nat) : O → O
  | .lst xs => .lst (D.shL m k xs)
  | .dct kvs => .dct (kvs.map fun p => (D.sh m k p.1, D.sh m k p.2))
  | .lck kvs => .lck (kvs.map fun p => (D.sh m k p.1, D.sh m k p.2))
  | .dcT kvs => .dcT (kvs.map fun p => (D.sh m k p.1, D.sh m k p.2))
  | .lcT kvs => .lcT (kvs.map fun p => (D.sh m k p.1, D.sh m k p.2))
  | .set xs => .set (D.shL m k xs)
  | .ins c fs => .ins c (fs.map fun p => (p.1, D.sh m k p.2))
def D.isRef : D → Bool
  | .ref _ => true
  | _ => false
def D.isAt (m : Nat) : D → Bool
  | .ref l => l == m
  | _ => false
/-- the least bound of the places in it -/
def maxN (a b : Nat) : Nat := if Nat.ble a b then b else a
mutual
def D.top : D → Nat
  | .ref l => l + 1
  | .tup xs => D.topL xs
  | _ => 0
def D.topL : List D → Nat
  | [] => 0
  | x :: xs => maxN (D.top x) (D.topL xs)
end
def topP : List (D × D) → Nat
  | [] => 0
  | p :: r => maxN (maxN (D.top p.1) (D.top p.2)) (topP r)
def O.top : O → Nat
  | .lst xs => D.topL xs
  | .dct kvs => topP kvs
  | .lck kvs => topP kvs
  | .dcT kvs => topP kvs
  | .lcT kvs => topP kvs
  | .set xs => D.topL xs
  | .ins _ fs => topP (fs.map fun p => (.non, p.2))
def topS : Nat → Sto → Nat
  | 0, _ => 0
  | _ + 1, [] => 0
  | m + 1, o :: r => maxN (O.top o) (topS m r)
/-- the beginning of the store that nothing of it leads out of -/
def closeM (st : Sto) : Nat → Nat → Nat
  | 0, m => m
  | f + 1, m => if Nat.ble (topS m st) m then m else closeM st f (topS m st)
/-- a call that was run over the store's beginning -/
def lay (m : Nat) (d : D) (st1 st : Sto) : R D := match st.drop m with
  | [] => .ok d st1
  | p :: q => (match st1.drop m with
    | [] => .ok d (st1 ++ p :: q)
    | o :: r => if r.isEmpty && O.low m o && stBelow m (st1.take m) && D.isAt m d then .ok (.ref (slen st)) (st1.take m ++ (p :: q) ++ [o])
      else .ok (D.sh m (slen (p :: q)) d) ((st1.take m).map (O.sh m (slen (p :: q))) ++ (p :: q) ++ (o :: r).map (O.sh m (slen (p :: q)))))
def body (rc : Ev) (b : S) (env : Env) (st : Sto) : R D := (rc.s b env st).bind fun o st => match o with
  | .rt d => .ok d st
  | .nx _ => .ok .non st
  | _ => .no
/-- a call over so much of the store -/
def callM (m : Nat) (rc : Ev) (f : Fn) (ds : List D) (st : Sto) : R D := if D.lowL m ds && stBelow m (st.take m) && Nat.ble m (slen st) then (match (body rc f.body (Env.new f.ns ds) (st.take m)).bind (fin m) with
          | .ok d st1 => lay m d st1 st
          | .ex x _ => if D.lowL 0 x.fs then .ex x st else .no
          | .no => .no)
        else (body rc f.body (Env.new f.ns ds) st).bind (fin (slen st))
/-- a call over values alone: the run doesn't name the store -/
def call0 (rc : Ev) (f : Fn) (ds : List D) (st : Sto) : R D := match (body rc f.body (Env.new f.ns ds) []).bind (fin 0) with
          | .ok d st1 => lay 0 d st1 st
          | .ex x _ => if D.lowL 0 x.fs then .ex x st else .no
          | .no => .no
def callF (P : List Fn) (rc : Ev) (f : Nat) (ds : List D) (st : Sto) : R D := match nth P f with
  | none => .no
  | some f => if ds.length == f.ps then (if D.lowL 0 ds then call0 rc f ds st else callM (closeM st 30 (D.topL ds)) rc f ds st) else .no
def opt (f : E → Env → Sto → R D) (e : E) (env : Env) (st : Sto) : R (Option Int) := match e with
  | .none => .ok Option.none st
  | e => (f e env st).bind fun d st => match d with
    | .int i => .ok (some i) st
    | _ => .no
def T.slots : T → List Nat
  | .nm i => [i]
  | .nil => []
  | .cons t r => t.slots ++ r.slots
/-- a comprehension's turns -/
def lcGo (r : Ev) (t : T) (c e : E) (env : Env) (src : List (Nat × O)) : List D → List D → Sto → R (List D)
  | [], acc, st => if srcOk st src then .ok acc.reverse st else .no
  | x :: xs, acc, st => if srcOk st src then (match T.take t x env with
    | some env' => (r.t c env' st).val.bind fun b st => if b then (r.e e env' st).val.bind fun d st => lcGo r t c e env src xs (d :: acc) st else lcGo r t c e env src xs acc st
    | none => .no) else .no
def lcIn (r : Ev) (t : T) (c e : E) (env : Env) (src : List (Nat × O)) : List D → List D → Sto → R (List D)
  | [], acc, st => if srcOk st src then .ok acc st else .no
  | x :: xs, acc, st => if srcOk st src then (match T.take t x env with
    | some env' => (r.t c env' st).val.bind fun b st => if b then (r.e e env' st).val.bind fun d st => if Nat.blt acc.length line then lcIn r t c e env src xs (d :: acc) st else .no else lcIn r t c e env src xs acc st
    | none => .no) else .no
def lcOut (r : Ev) (t : T) (it' : E) (t' : T) (c e : E) (env : Env) (src : List (Nat × O)) : List D → List D → Sto → R (List D)
  | [], acc, st => if srcOk st src then .ok acc.reverse st else .no
  | x :: xs, acc, st => if srcOk st src then (match T.take t x env with
    | some env' => (r.i it' env' st).val.bind fun it st => (lcIn r t' c e (env'.wipe t'.slots) it.src it.items acc st).bind fun acc st => lcOut r t it' t' c e env src xs acc st
    | none => .no) else .no
def dcGo (r : Ev) (t : T) (k v : E) (env : Env) (src : List (Nat × O)) : List D → List (D × D) → Sto → R (List (D × D))
  | [], acc, st => if srcOk st src then .ok acc st else .no
  | x :: xs, acc, st => if srcOk st src then (match T.take t x env with
    | some env' => (r.e k env' st).val.bind fun k' st => (r.e v env' st).val.bind fun v' st => if D.simple k' && Nat.blt acc.length line then dcGo r t k v env src xs (kvPut k' v' acc) st else .no
    | none => .no) else .no
def frGo (r : Ev) (t : T) (b : S) (src : List (Nat × O)) : List D → Env → Sto → R Out
  | [], env, st => if srcOk st src then .ok (.nx env) st else .no
  | x :: xs, env, st => if srcOk st src then (match T.take t x env with
    | some env' => (r.s b env' st).bind fun o st => (match o with
      | .nx env => frGo r t b src xs env st
      | .ct env => frGo r t b src xs env st
      | .bk env => .ok (.nx env) st
      | .rt d => .ok (.rt d) st)
    | none => .no) else .no
def whGo (r : Ev) (c : E) (b : S) : Nat → Env → Sto → R Out
  | 0, _, _ => .no
  | k + 1, env, st => (r.t c env st).bind fun x st => if x then (r.s b env st).bind fun o st => (match o with
      | .nx env => whGo r c b k env st
      | .ct env => whGo r c b k env st
      | .bk env => .ok (.nx env) st
      | .rt d => .ok (.rt d) st) else .ok (.nx env) st
/-- the dict that a loop locks while it walks it -/
def lockOf (e : E) (env : Env) (st : Sto) : Option Nat :=
  let i := match e with
    | .val e => (match e with | .var i => some i | _ => none)
    | .mth m o es => (match m with
      | .items => (match o with | .var i => (match es with | .nil => some i | _ => none) | _ => none)
      | .values => (match o with | .var i => (match es with | .nil => some i | _ => none) | _ => none)
      | _ => none)
    | _ => none
  match i with
  | some i => (match env.get i with
    | some (.ref l) => (match sget st l with | some (.dct _) => some l | some (.dcT _) => some l | _ => none)
    | _ => none)
  | none => none
def lock (l : Nat) (st : Sto) : Sto := match sget st l with
  | some (.dct kvs) => sput st l (.lck kvs)
  | some (.dcT kvs) => sput st l (.lcT kvs)
  | _ => st
def unlock (l : Nat) (st : Sto) : Sto := match sget st l with
  | some (.lck kvs) => sput st l (.dct kvs)
  | some (.lcT kvs) => sput st l (.dcT kvs)
  | _ => st
def locked {α : Type} (o : Option Nat) (f : Sto → R α) (st : Sto) : R α := match o with
  | none => f st
  | some l => (match f (lock l st) with
    | .ok a st' => .ok a (unlock l st')
    | _ => .no)
def lenR (d : D) (st : Sto) : Option Nat := match d with
  | .tup xs => some xs.length
  | .str s => if small s.length then some s.length else none
  | .ref l => (match sget st l with
    | some (.lst xs) => some xs.length
    | some (.dct kvs) => some kvs.length
    | _ => none)
  | .rol ns => some ns.length
  | _ => none
def pairsOf : List D → Option (List (D × D))
  | [] => some []
  | .tup [k, v] :: r => if D.simple k then (match pairsOf r with | some q => some ((k, v) :: q) | none => none) else none
  | _ :: _ => none
def putAll : List (D × D) → List (D × D) → List (D × D)
  | [], acc => acc
  | p :: r, acc => putAll r (kvPut p.1 p.2 acc)
def uniq : List D → List D → List D
  | [], acc => acc.reverse
  | x :: xs, acc => uniq xs (if anyEq x acc then acc else x :: acc)
def allB : List D → Option Bool
  | [] => some true
  | .bl b :: r => (match allB r with | some c => some (b && c) | none => none)
  | _ :: _ => none
def anyB : List D → Option Bool
  | [] => some false
  | .bl b :: r => (match anyB r with | some c => some (b || c) | none => none)
  | _ :: _ => none
def okO {α : Type} (st : Sto) : Option α → R α
  | some a => .ok a st
  | none => .no
def fact : Nat → Nat
  | 0 => 1
  | n + 1 => (n + 1) * fact n
def digs : List Nat → Nat → Option Nat
  | [], n => some n
  | c :: r, n => if Nat.ble 48 c && Nat.ble c 57 then digs r (n * 10 + (c - 48)) else none
def posOf (l : List Nat) : Option Int := match digs l 0 with
  | some n => some (n : Int)
  | none => none
def negOf (l : List Nat) : Option Int := match l with
  | [] => none
  | _ :: _ => (match digs l 0 with | some n => some (-(n : Int)) | none => none)
/-- the integer that plain figures tell -/
def intOf (l : List Nat) : Option Int := match l with
  | [] => none
  | c :: r => if c == 45 then negOf r else posOf l
/-- built-ins on one value, on two -/
def blt1 (b : Blt) (d : D) (st : Sto) : R D := match b with
  | .len => (match lenR d st with | some n => .ok (.int n) st | none => .no)
  | .abs => (match d with | .int i => .ok (.int (if i < 0 then -i else i)) st | _ => .no)
  | .int => (match d with
    | .int i => .ok (.int i) st
    | .bl b => .ok (.int (if b then 1 else 0)) st
    | .str s => if Nat.ble s.length 640 then (match intOf s.cps.toList with | some n => .ok (.int n) st | none => .no) else .no
    | _ => .no)
  | .str => (match d with | .int i => if Nat.blt i.natAbs.log2 1920 then .ok (.str (Str.ofString (toString i))) st else .no | _ => .no)
  | .ord => (match d with | .str s => (match s.cps.toList with | [c] => .ok (.int c) st | _ => .no) | _ => .no)
  | .factorial => (match d with | .int i => if decide (0 ≤ i) && decide (i < 25) then .ok (.int (fact i.toNat)) st else .no | _ => .no)
  | _ => .no
def blt2 (b : Blt) (d e : D) (st : Sto) : R D := match d with
  | .int i => (match e with
    | .int j => (match b with
      | .max => .ok (.int (if j > i then j else i)) st
      | .min => .ok (.int (if j < i then j else i)) st
      | .gcd => .ok (.int (Int.gcd i j)) st
      | .lcm => if Nat.blt i.natAbs 1073741824 && Nat.blt j.natAbs 1073741824 then .ok (.int (Int.lcm i j)) st else .no
      | _ => .no)
    | _ => .no)
  | _ => .no
def bltV (b : Blt) (ds : List D) (st : Sto) : R D := match ds with
  | [] => .no
  | d :: r => (match r with
    | [] => blt1 b d st
    | e :: q => (match q with | [] => blt2 b d e st | _ :: _ => .no))
/-- built-ins on one thing that is walked -/
def bltI (b : Blt) (xs : List D) (st : Sto) : R D := match b with
  | .tuple => if small xs.length then .ok (.tup xs) st else .no
  | .list => if small xs.length then new (.lst xs) st else .no
  | .set => .no
  | .dict => (match pairsOf xs with | some kvs => new (.dct (putAll kvs [])) st | none => .no)
  | .sorted => if uniform xs && (xs.all D.isTup1 || xs.all fun x => !D.isTup x) && small xs.length then (match sortD xs with | some r => new (.lst r) st | none => .no) else .no
  | .max => if uniform xs then (match xs with | [] => .no | x :: xs => okO st (least (fun a b => D.lt b a) x xs)) else .no
  | .min => if uniform xs then (match xs with | [] => .no | x :: xs => okO st (least D.lt x xs)) else .no
  | .sum => (match foldI (· + ·) 0 xs with | some i => .ok (.int i) st | none => .no)
  | .all => ofB st (allB xs)
  | .any => ofB st (anyB xs)
  | _ => .no
def chars (s : Str) : List Nat := s.cps.toList
def ofChars (l : List Nat) : Str := ⟨l.toArray⟩
def findIx (x : D) : List D → Option Nat
  | [] => none
  | y :: ys => if D.eqv y x then some 0 else (match findIx x ys with | some k => some (k + 1) | none => none)
def countEq (x : D) : List D → Nat
  | [] => 0
  | y :: ys => if D.eqv y x then countEq x ys + 1 else countEq x ys
def delIx {α : Type} : List α → Nat → List α
  | [], _ => []
  | x :: r, i => (match i with | 0 => r | j + 1 => x :: delIx r j)
inductive Kd where | str | lst | tup | dct
def kdOf (d : D) (st : Sto) : Option Kd := match d with
  | .str _ => some .str
  | .tup _ => some .tup
  | .ref l => (match sget st l with
    | some (.lst _) => some .lst
    | some (.dct _) => some .dct
    | some (.dcT _) => some .dct
    | _ => none)
  | _ => none
def mthL1 (l : Nat) (xs : List D) (m : Mth) (d : D) (st : Sto) : R D := match m with
  | .append => if Nat.blt xs.length line then .ok .non (sput st l (.lst (xs ++ [d]))) else .no
  | .extend => (match d with | .ref b => (match sget st b with | some (.lst ys) => if small (xs.length + ys.length) then .ok .non (sput st l (.lst (xs ++ ys))) else .no | _ => .no) | _ => .no)
  | .pop => (match d with
    | .int i => if small xs.length then (match place xs.length i with
      | some k => (match nth xs k with | some d => .ok d (sput st l (.lst (delIx xs k))) | none => .no)
      | none => .no) else .no
    | _ => .no)
  | .index => if D.plain d && D.plainL xs then (match findIx d xs with | some k => .ok (.int k) st | none => .no) else .no
  | .count => if D.plain d && D.plainL xs then .ok (.int (countEq d xs)) st else .no
  | _ => .no
def mthL0 (l : Nat) (xs : List D) (m : Mth) (st : Sto) : R D := match m with
  | .pop => (match nth xs (xs.length - 1) with | some d => .ok d (sput st l (.lst (xs.take (xs.length - 1)))) | none => .no)
  | _ => .no
def mthL (l : Nat) (m : Mth) (ds : List D) (st : Sto) : R D := match sget st l with
  | some (.lst xs) => (match ds with
    | [] => mthL0 l xs m st
    | d :: r => (match r with | [] => mthL1 l xs m d st | _ :: _ => .no))
  | _ => .no
def mthDk (b : Bool) (kvs : List (D × D)) (m : Mth) (ds : List D) (st : Sto) : R D := match m with
  | .get => (match ds with
    | [] => .no
    | k :: r => if (match b with | true => D.isInts k | false => D.simple k) then (match r with
      | [] => .ok ((kvGet k kvs).getD .non) st
      | d :: q => (match q with | [] => .ok ((kvGet k kvs).getD d) st | _ :: _ => .no)) else .no)
  | _ => .no
def mthD (l : Nat) (m : Mth) (ds : List D) (st : Sto) : R D := match sget st l with
  | some (.dct kvs) => mthDk false kvs m ds st
  | some (.dcT kvs) => mthDk true kvs m ds st
  | _ => .no
def mthT1 (xs : List D) (m : Mth) (d : D) (st : Sto) : R D := match m with
  | .index => if D.plain d && D.plainL xs then (match findIx d xs with | some k => .ok (.int k) st | none => .no) else .no
  | .count => if D.plain d && D.plainL xs then .ok (.int (countEq d xs)) st else .no
  | _ => .no
def mthT (xs : List D) (m : Mth) (ds : List D) (st : Sto) : R D := match ds with
  | [] => .no
  | d :: r => (match r with | [] => mthT1 xs m d st | _ :: _ => .no)
/-- the row of things that a list or a tuple is -/
def rowOf (d : D) (st : Sto) : Option (List D) := match d with
  | .tup xs => some xs
  | .ref l => (match sget st l with | some (.lst xs) => some xs | _ => none)
  | _ => none
/-- what a walk leans on -/
def srcD (d : D) (xs : List D) : List (Nat × O) := match d with
  | .ref l => [(l, .lst xs)]
  | _ => []
/-- the place of the sign from k on -/
def findC (c : Nat) : List Nat → Nat → Int
  | [], _ => -1
  | x :: r, k => if x == c then k else findC c r (k + 1)
/-- a bound of a text's part -/
def clip (n : Nat) (i : Int) : Nat := match i with
  | .ofNat k => if Nat.blt k n then k else n
  | .negSucc k => n - (k + 1)
def findS (s : List Nat) (c : Nat) (lo hi : Nat) : Int := findC c ((s.take hi).drop lo) lo
def sign1 (d : D) : Option Nat := match d with
  | .str y => (match y.cps.toList with
    | [] => none
    | c :: r => (match r with | [] => some c | _ :: _ => none))
  | _ => none
def mthS1 (s : Str) (m : Mth) (d : D) (st : Sto) : R D := match m with
  | .join => (match rowOf d st with
    | some xs => (match joinS (chars s) xs with | some l => if small (l.length + s.length) then .ok (.str (ofChars l)) st else .no | none => .no)
    | none => .no)
  | .find => (match sign1 d with | some c => .ok (.int (findS s.cps.toList c 0 s.length)) st | none => .no)
  | _ => .no
def mthS2 (s : Str) (m : Mth) (d e : D) (st : Sto) : R D := match m with
  | .find => (match sign1 d with
    | some c => (match e with | .int i => .ok (.int (findS s.cps.toList c (clip s.length i) s.length)) st | _ => .no)
    | none => .no)
  | _ => .no
def mthS3 (s : Str) (m : Mth) (d e f : D) (st : Sto) : R D := match m with
  | .find => (match sign1 d with
    | some c => (match e with | .int i => (match f with | .int j => .ok (.int (findS s.cps.toList c (clip s.length i) (clip s.length j))) st | _ => .no) | _ => .no)
    | none => .no)
  | _ => .no
def mthS (s : Str) (m : Mth) (ds : List D) (st : Sto) : R D := match ds with
  | [] => .no
  | d :: r => (match r with
    | [] => mthS1 s m d st
    | e :: q => (match q with
      | [] => mthS2 s m d e st
      | f :: p => (match p with | [] => mthS3 s m d e f st | _ :: _ => .no)))
/-- the kind has the method -/
def hasM : Kd → Mth → Bool
  | .lst, m => (match m with | .append | .extend | .pop | .index => true | _ => false)
  | .str, m => (match m with | .join | .find => true | _ => false)
  | .tup, m => (match m with | .index => true | _ => false)
  | .dct, m => (match m with | .get => true | _ => false)
def mthV (k : Kd) (m : Mth) (o : D) (ds : List D) (st : Sto) : R D := match k with
  | .lst => (match o with | .ref l => mthL l m ds st | _ => .no)
  | .dct => (match o with | .ref l => mthD l m ds st | _ => .no)
  | .tup => (match o with | .tup xs => mthT xs m ds st | _ => .no)
  | .str => (match o with | .str s => mthS s m ds st | _ => .no)
def isTy (t : Ty) (d : D) (st : Sto) : Option Bool := match d with
  | .non => some false
  | .bl _ => some (match t with | .int => true | .bool => true | _ => false)
  | .int _ => some (match t with | .int => true | _ => false)
  | .str _ => some (match t with | .str => true | _ => false)
  | .tup _ => some (match t with | .tuple => true | _ => false)
  | .ref l => (match sget st l with
    | some (.lst _) => some (match t with | .list => true | _ => false)
    | some (.dct _) => some false
    | _ => none)
  | .fn _ => none
  | .rol _ => none
def G.take (r : Ev) (g : G) (d : D) (env : Env) (st : Sto) : R Env := match g with
  | .nm i => .ok (env.put i d) st
  | .sub o i => (r.e o env st).bind fun x st => (r.e i env st).bind fun y st => (store x y d st).val.bind fun _ st => .ok env st
/-- replacing: the number says how many signs are passed over -/
def rplS (y z : List Nat) : Nat → List Nat → List Nat
  | _, [] => []
  | k, c :: r => (match k with
    | 0 => if (c :: r).take y.length == y then z ++ rplS y z (y.length - 1) r else c :: rplS y z 0 r
    | k + 1 => rplS y z k r)
/-- built-ins that walk one thing -/
def walks : Blt → Bool
  | .tuple | .list | .set | .dict | .sorted | .sum | .all | .any => true
  | _ => false
def inR62 (n : Int) : Bool := decide (n < 4611686018427387904) && decide (-4611686018427387904 ≤ n)
def downFrom (a : Int) : Nat → List D
  | 0 => []
  | n + 1 => .int a :: downFrom (a - 1) n
/-- a range's numbers -/
def rngR (e : E → Env → Sto → R D) (es : E) (env : Env) (st : Sto) : R (List D) := match es with
  | .cons a q => (match q with
    | .nil => (e a env st).bind fun x st => (match x with | .int n => if inR62 n then .ok (intsFrom 0 n.toNat) st else .no | _ => .no)
    | .cons b q => (match q with
      | .nil => (e a env st).bind fun x st => (e b env st).bind fun y st => (match x with
        | .int lo => (match y with | .int hi => if inR62 lo && inR62 hi then .ok (intsFrom lo (hi - lo).toNat) st else .no | _ => .no)
        | _ => .no)
      | .cons c q => (match q with
        | .nil => (e a env st).bind fun x st => (e b env st).bind fun y st => (e c env st).bind fun z st => (match x with
          | .int lo => (match y with
            | .int hi => (match z with | .int k => if inR62 lo && inR62 hi && decide (k = -1) then .ok (downFrom lo (lo - hi).toNat) st else .no | _ => .no)
            | _ => .no)
          | _ => .no)
        | _ => .no)
      | _ => .no)
    | _ => .no)
  | _ => .no
/-- what is made of the arguments of a built-in -/
def bltA (b : Blt) (ds : List D) (st : Sto) : R D := if walks b then (match ds with
    | [] => .no
    | d :: r => (match r with
      | [] => (match rowOf d st with | some xs => bltI b xs st | none => .no)
      | _ :: _ => .no))
  else (match ds with
    | [] => .no
    | d :: r => (match r with
      | [] => (match b with
        | .max => (match rowOf d st with | some xs => bltI b xs st | none => .no)
        | .min => (match rowOf d st with | some xs => bltI b xs st | none => .no)
        | _ => bltV b ds st)
      | _ :: _ => bltV b ds st))
/-- a display of a dict of one pair -/
def dicV (b : Bool) (k v : D) (st : Sto) : R D := match b with
  | true => if D.isInts k then new (.dcT [(k, v)]) st else .no
  | false => if D.simple k then new (.dct [(k, v)]) st else .no
/-- max(xs, default=d), min(xs, default=d) -/
def mxdV (b : Blt) (x d : D) (st : Sto) : R D := match rowOf x st with
  | some xs => (match xs with | [] => .ok d st | _ :: _ => bltI b xs st)
  | none => .no
/-- list(d.values()) -/
def vwsV (x : D) (st : Sto) : R D := match x with
  | .ref l => (match sget st l with
    | some (.dct kvs) => if small kvs.length then new (.lst (kvs.map (·.2))) st else .no
    | some (.dcT kvs) => if small kvs.length then new (.lst (kvs.map (·.2))) st else .no
    | _ => .no)
  | _ => .no
def oneE : E → E
  | .cons e q => (match q with | .nil => e | _ => .none)
  | _ => .none
/-- e, where it is the range of its arguments -/
def asRng : E → Option E
  | .blt b es => (match b with | .range => some es | _ => none)
  | _ => none
def step (P : List Fn) (k : Nat) (r rc : Ev) : Ev where
  e := fun e env st => match e with
    | .var i => okO st (env.get i)
    | .cst d => .ok d st
    | .glb _ d => .ok d st
    | .bin o a b => (r.e a env st).bind fun x st => (r.e b env st).bind fun y st => (binop o x y st).val
    | .neg a => (r.e a env st).bind fun x st => (match x with | .int i => .ok (.int (-i)) st | _ => .no)
    | .cmp o a b => (r.e a env st).bind fun x st => (r.e b env st).bind fun y st => ofB st (cmpop o x y st)
    | .cmp2 o p a b c => (r.e a env st).bind fun x st => (r.e b env st).bind fun y st => (match cmpop o x y st with
      | some true => (r.e c env st).bind fun z st => ofB st (cmpop p y z st)
      | some false => .ok (.bl false) st
      | none => .no)
    | .and a b => (r.e a env st).bind fun x st => (match x with | .bl true => r.e b env st | .bl false => .ok (.bl false) st | _ => .no)
    | .or a b => (r.e a env st).bind fun x st => (match x with | .bl false => r.e b env st | .bl true => .ok (.bl true) st | _ => .no)
    | .not a => (r.e a env st).bind fun x st => (match x with | .bl b => .ok (.bl (!b)) st | _ => .no)
    | .ifx c a b => (r.t c env st).bind fun x st => if x then r.e a env st else r.e b env st
    | .tup es => (r.es es env st).bind fun ds st => if small ds.length then .ok (.tup ds) st else .no
    | .lst es => (r.es es env st).bind fun ds st => if small ds.length then new (.lst ds) st else .no
    | .dic b => new (match b with | true => .dcT [] | false => .dct []) st
    | .dc1 b k v => (r.e k env st).bind fun x st => (r.e v env st).bind fun y st => dicV b x y st
    | .idx a i => (r.e a env st).bind fun x st => (r.e i env st).bind fun y st => (item x y st).val
    | .slc a lo hi => (r.e a env st).bind fun x st => (opt r.e lo env st).bind fun l st => (opt r.e hi env st).bind fun h st => (cut x l h st).val
    | .rev a => (r.e a env st).bind fun x st => (match x with
      | .ref l => (match sget st l with | some (.lst xs) => new (.lst xs.reverse) st | _ => .no)
      | .tup xs => .ok (.tup xs.reverse) st
      | _ => .no)
    | .rpl a y z => (r.e a env st).bind fun x st => (match x with
      | .str s => if Nat.ble 1 y.length && Nat.ble (s.length + (s.length + 1) * z.length) line then .ok (.str (ofChars (rplS y.cps.toList z.cps.toList 0 s.cps.toList))) st else .no
      | _ => .no)
    | .call f es => (r.es es env st).bind fun ds st => callF P rc f ds st
    | .blt b es => (match asRng (oneE es) with
      | some as => (rngR r.e as env st).bind fun xs st => (match b with
        | .list => if small xs.length then new (.lst xs) st else .no
        | .tuple => if small xs.length then .ok (.tup xs) st else .no
        | _ => .no)
      | none => (r.es es env st).bind fun ds st => (bltA b ds st).val)
    | .mth m o es => (r.e o env st).bind fun x st => (match kdOf x st with
      | some k => if hasM k m then (r.es es env st).bind fun ds st => (mthV k m x ds st).val else .no
      | none => .no)
    | .mxd b a d => (r.e a env st).bind fun x st => (r.e d env st).bind fun y st => (mxdV b x y st).val
    | .vws o => (r.e o env st).bind fun x st => (vwsV x st).val
    | .isi t e => (r.e e env st).bind fun x st => ofB st (isTy t x st)
    | .lc vs t it c e => locked (lockOf it env st) (fun st => (r.i it env st).bind fun it st => if small it.items.length then (lcGo r t c e (env.wipe vs) it.src it.items [] st).bind fun ds st => new (.lst ds) st else .no) st
    | .lc2 vs t it t' it' c e => (r.i it env st).bind fun it st => (lcOut r t it' t' c e (env.wipe vs) it.src it.items [] st).bind fun ds st => new (.lst ds) st
    | .dc vs t it k v => (r.i it env st).bind fun it st => (dcGo r t k v (env.wipe vs) it.src it.items [] st).bind fun kvs st => new (.dct kvs) st
    | _ => .no
  es := fun e env st => match e with
    | .nil => .ok [] st
    | .cons e q => (r.e e env st).bind fun d st => (r.es q env st).bind fun ds st => .ok (d :: ds) st
    | _ => .no
  t := fun e env st => match e with
    | .none => .ok true st
    | .and a b => (r.t a env st).bind fun x st => if x then r.t b env st else .ok false st
    | .or a b => (r.t a env st).bind fun x st => if x then .ok true st else r.t b env st
    | .not a => (r.t a env st).bind fun x st => .ok (!x) st
    | .val e => (r.e e env st).bind fun d st => okO st (truth st d)
    | _ => .no
  i := fun e env st => match e with
    | .blt b es => (match b with
      | .range => (rngR r.e es env st).bind fun xs st => .ok ⟨xs, [], false⟩ st
      | .enumerate => (match es with
        | .cons a q => (match q with
          | .nil => (r.e a env st).bind fun d st => (match rowOf d st with | some xs => .ok ⟨numD 0 xs, srcD d xs, true⟩ st | none => .no)
          | _ => .no)
        | _ => .no)
      | .zip => (match es with
        | .cons a q => (match q with
          | .cons b q2 => (match q2 with
            | .nil => (r.e a env st).bind fun d st => (r.e b env st).bind fun d' st => (match rowOf d st with
              | some xs => (match rowOf d' st with
                | some ys => if D.isRef d == D.isRef d' then .ok ⟨zipD xs ys, srcD d xs ++ srcD d' ys, true⟩ st else .no
                | none => .no)
              | none => .no)
            | _ => .no)
          | _ => .no)
        | _ => .no)
      | .reversed => (match asRng (oneE es) with
        | some as => (rngR r.e as env st).bind fun xs st => .ok ⟨xs.reverse, [], false⟩ st
        | none => .no)
      | _ => .no)
    | .mth m o es => (match m with
      | .items => (match es with
        | .nil => (r.e o env st).bind fun x st => (match x with
          | .ref l => (match sget st l with | some (.lck kvs) => .ok ⟨kvs.map fun p => .tup [p.1, p.2], [], true⟩ st | some (.lcT kvs) => .ok ⟨kvs.map fun p => .tup [p.1, p.2], [], true⟩ st | _ => .no)
          | _ => .no)
        | _ => .no)
      | .values => (match es with
        | .nil => (r.e o env st).bind fun x st => (match x with
          | .ref l => (match sget st l with | some (.lck kvs) => .ok ⟨kvs.map (·.2), [], false⟩ st | _ => .no)
          | _ => .no)
        | _ => .no)
      | _ => .no)
    | .val e => (r.e e env st).bind fun d st => okO st (itOf d st)
    | _ => .no
  s := fun s env st => match s with
    | .skip => .ok (.nx env) st
    | .seq a b => (r.s a env st).bind fun o st => (match o with | .nx env => r.s b env st | o => .ok o st)
    | .exp e => (r.e e env st).bind fun _ st => .ok (.nx env) st
    | .ret e => (r.e e env st).bind fun d st => .ok (.rt d) st
    | .retn => .ok (.rt .non) st
    | .brk => .ok (.bk env) st
    | .cnt => .ok (.ct env) st
    | .asg t e => (r.e e env st).bind fun d st => (match T.take t d env with | some env => .ok (.nx env) st | none => .no)
    | .sto o i e => (r.e e env st).bind fun d st => (r.e o env st).bind fun x st => (r.e i env st).bind fun y st => (store x y d st).val.bind fun _ st => .ok (.nx env) st
    | .aug i o e => (match env.get i with
      | some x => (r.e e env st).bind fun y st => (iop o x y st).val.bind fun z st => .ok (.nx (env.put i z)) st
      | none => .no)
    | .augs a i o e => (r.e a env st).bind fun x st => (r.e i env st).bind fun y st => (item x y st).val.bind fun z st => (r.e e env st).bind fun w st => (iop o z w st).val.bind fun v st => (store x y v st).val.bind fun _ st => .ok (.nx env) st
    | .par i j a b => (r.e a env st).bind fun x st => (r.e b env st).bind fun y st => .ok (.nx ((env.put i x).put j y)) st
    | .par3 i j l a b c => (r.e a env st).bind fun x st => (r.e b env st).bind fun y st => (r.e c env st).bind fun z st => .ok (.nx (((env.put i x).put j y).put l z)) st
    | .mul t u a b => (r.e a env st).bind fun d st => (r.e b env st).bind fun d' st => (G.take r t d env st).bind fun env st => (G.take r u d' env st).bind fun env st => .ok (.nx env) st
    | .ife c a b => (r.t c env st).bind fun x st => if x then r.s a env st else r.s b env st
    | .whl c b => whGo r c b k env st
    | .fr t it b => locked (lockOf it env st) (fun st => (r.i it env st).bind fun it st => frGo r t b it.src it.items env st) st
    | _ => .no
def ev (P : List Fn) : Nat → Nat → Ev
  | 0, _ => Ev.none
  | n + 1, c => step P n (ev P n c) (match c with | 0 => Ev.none | c + 1 => ev P n c)
def run (P : List Fn) (n c f : Nat) (ds : List D) : Option D := match callF P (ev P n c) f ds [] with
  | .ok d _ => some d
  | _ => none
end Ev
end

section
set_option Elab.async false
set_option linter.all false
set_option maxRecDepth 100000
set_option maxHeartbeats 1000000
/-! Snd0: dicts whose keys are tuples of whole numbers. -/
namespace Ev
open PySem PySem.Spec L2 PyProof.Rows
/-- a tuple's object -/
def tupO (its : List Value) : Obj := { cls := .type "tuple", data := .seq its.toArray }
abbrev TX := List (List Int × Addr × V)
abbrev TZ := List (List Int × Addr × Value)
def TZr : TX → TZ → Prop := Paired fun p q => p.1 = q.1 ∧ p.2.1 = q.2.1 ∧ RelV p.2.2 q.2.2
/-- what is true of the dict's own object -/
def TDp (a : Addr) (xs : TX) (h : Heap) : Prop := xs.length ≤ sizeLine ∧ (a == sysModules) = false ∧ ∃ zs : TZ, TZr xs zs ∧ (zs.map (·.1)).Nodup ∧
  ∃ (P : Program) (w : World) (o : Obj) (es : Array DictEntry) (ep : Nat), h.get? a = some o ∧ o.ExactDict ∧ o.data = .dict es ep ∧ es.toList = zs.map (entryOfKey (tupleKind (intKind P w)))
theorem ent_any (P P' : Program) (w w' : World) : entryOfKey (tupleKind (intKind P w)) = entryOfKey (tupleKind (intKind P' w')) := rfl
def TKeys (H : Hp) (xs : TX) : Prop := ∀ x ∈ xs, Rd H x.2.1 (.tup (x.1.map V.int))
def valT (xs : TX) (k : List Int) : Option V := (xs.find? fun x => decide (x.1 = k)).map (·.2.2)
def putT (xs : TX) (k : List Int) (b : Addr) (v : V) : TX := if (valT xs k).isSome then xs.map (fun x => if x.1 = k then (x.1, x.2.1, v) else x) else xs ++ [(k, b, v)]
theorem TZr.val {xs : TX} {zs : TZ} (r : TZr xs zs) (k : List Int) : RelO (valT xs k) ((atKey zs k).map (·.2)) := by
  induction r with
  | nil => exact True.intro
  | @cons p q ps qs h t ih =>
    obtain ⟨h1, _, h2⟩ := h
    by_cases e : p.1 = k
    · have e' : q.1 = k := h1.symm.trans e
      have b : atKey (q :: qs) k = some q.2 := by simp [atKey, List.find?_cons, e']
      have b2 : valT (p :: ps) k = some p.2.2 := by simp [valT, List.find?_cons, e]
      rw [b2, b]; exact h2
    · have e' : ¬ q.1 = k := fun z => e (h1.trans z)
      have b : atKey (q :: qs) k = atKey qs k := by simp [atKey, List.find?_cons, e']
      have b2 : valT (p :: ps) k = valT ps k := by simp [valT, List.find?_cons, e]
      rw [b2, b]; exact ih
theorem TZr.put {xs : TX} {zs : TZ} (r : TZr xs zs) (k : List Int) {b : Addr} {y : V} {u : Value} (ry : RelV y u) : TZr (putT xs k b y) (storedH zs k b u) := by
  have e : (valT xs k).isSome = (atKey zs k).isSome := by
    rw [(r.val k).isSome_eq, Option.isSome_map]
  unfold putT storedH
  rw [e]
  by_cases q : (atKey zs k).isSome = true
  · rw [if_pos q, if_pos q]
    clear e q
    induction r with
    | nil => exact .nil
    | @cons p q ps qs h t ih =>
      rw [List.map_cons, List.map_cons]
      refine .cons ?_ ih
      obtain ⟨h1, h2, h3⟩ := h
      unfold putAt
      by_cases e : p.1 = k
      · rw [if_pos e, if_pos (h1.symm.trans e)]; exact ⟨h1, h2, ry⟩
      · rw [if_neg e, if_neg (fun z => e (h1.trans z))]; exact ⟨h1, h2, h3⟩
  · rw [if_neg q, if_neg q]; exact Paired.snoc r ⟨rfl, rfl, ry⟩
theorem putT_len (xs : TX) (k : List Int) (b : Addr) (v : V) : (putT xs k b v).length ≤ xs.length + 1 := by
  unfold putT
  split
  · simp
  · simp
theorem TDp.okX {P : Program} {w : World} {H : Hp} {h : Heap} {a : Addr} {xs : TX} (t : TDp a xs h) : ObjOk P w H h a (.ext (TDp a xs)) := by
  refine ⟨t, ?_, fun h1 h2 t1 k => ?_⟩
  · obtain ⟨_, _, zs, _, _, P, w, o, es, ep, e, _⟩ := t
    exact ⟨o, e⟩
  · obtain ⟨t1, t2, zs, t3, t4, P, w, o, es, ep, e, t5⟩ := t1
    exact ⟨t1, t2, zs, t3, t4, P, w, o, es, ep, k o e, t5⟩
theorem items_int {P : Program} {w : World} : ∀ {ks : List Int} {us : List Value}, Vals (ks.map V.int) us → ItemsAre (intKind P w) ks us
  | [], us, r => by cases r; exact .nil
  | k :: ks, us, r => by
    cases r with
    | cons h t =>
      obtain ⟨t', rfl⟩ := h
      exact .cons (by simp [PySem.intKind, Value.isInt]) (items_int t)
theorem tkey_of {P P' : Program} {w w' : World} {H : Hp} {h : Heap} {a : Addr} {ks : List Int} (ok : HOk P w H h) (e : Rd H a (.tup (ks.map V.int))) : (tupleKind (intKind P' w')).is h ks a := by
  obtain ⟨_, its, r, o, h1, h2, n, h3⟩ := (show ObjOk P w H h a (.tup (ks.map V.int)) from e.ok ok)
  exact ⟨o, its.toArray, n, h1, h2, h3, by simpa using items_int r⟩
/-- the dict, in the model's words -/
theorem td_of {P : Program} {w : World} {H : Hp} {h : Heap} {a : Addr} {xs : TX} (ok : HOk P w H h) (e : Rd H a (.ext (TDp a xs))) (tk : TKeys H xs) : xs.length ≤ sizeLine ∧ (a == sysModules) = false ∧ ∃ zs : TZ, TZr xs zs ∧ h.DictOfH (tupleKind (intKind P w)) a zs := by
  obtain ⟨⟨t1, t2, zs, t3, t4, P', w', o, es, ep, e1, e2, e3, e4⟩, _, _⟩ := (show ObjOk P w H h a (.ext (TDp a xs)) from e.ok ok)
  refine ⟨t1, t2, zs, t3, o, es, ep, e1, e2, e3, e4, fun x hx => ?_, t4⟩
  have all : ∀ {l : TX} {m : TZ}, TZr l m → TKeys H l → ∀ x ∈ m, (tupleKind (intKind P w)).is h x.1 x.2.1 := by
    intro l m q
    induction q with
    | nil => intro _ x hx; exact nomatch hx
    | @cons p q ps qs hq t ih =>
      intro tk x hx
      rcases List.mem_cons.mp hx with e | hx
      · subst e
        rw [← hq.1, ← hq.2.1]
        exact tkey_of ok (tk p (List.mem_cons_self ..))
      · exact ih (fun y hy => tk y (List.mem_cons_of_mem _ hy)) x hx
  exact all t3 tk x hx
theorem td_new {P : Program} {w : World} {h' : Heap} {a : Addr} {xs : TX} {zs : TZ} (z : xs.length ≤ sizeLine) (hd : (a == sysModules) = false) (r : TZr xs zs) (dd : h'.DictOfH (tupleKind (intKind P w)) a zs) : TDp a xs h' := by
  obtain ⟨o, es, ep, e1, e2, e3, e4, _, e5⟩ := dd
  exact ⟨z, hd, zs, r, e5, P, w, o, es, ep, e1, e2, e3, e4⟩
section
variable {X : Cx} {pins : List (Addr × Obj)} {σ : L2.St} {H : Hp} {s : Shared} {a b : Addr} {ks : List Int} {v : V} {r : Value} {A : Around} {E : Value → Shared → Prop} {xs : TX}
theorem t_getItem {Q : Value → Shared → Prop} (hu : A.units + 1 < cLine) (I : Inv X pins σ H s) (e : Rd H a (.ext (TDp a xs))) (tk : TKeys H xs) (eb : Rd H b (.tup (ks.map V.int))) (l : valT xs ks = some v)
    (h : ∀ w' s', Inv X pins σ H s' → RelV v w' → Q w' s') : wpAny (model X.prog X.w) A (getItem (.ref a) (.ref b)) Q E s := by
  obtain ⟨z, hd, zs, rel, dd⟩ := td_of I.hok e tk
  obtain ⟨w', hw, rw'⟩ := RelO.some_of (v := v) (o := (atKey zs ks).map (·.2)) (by rw [← l]; exact rel.val ks)
  obtain ⟨p, hp, hp2⟩ := Option.map_eq_some_iff.mp hw
  refine wpAny_getItem_heap (tupleKind_room_in1 hu) (tkey_of I.hok eb) dd hp ?_
  rw [hp2]
  exact h w' _ (I.tok _) rw'
theorem t_in {Q : Value → Shared → Prop} (hu : A.units + 1 < cLine) (I : Inv X pins σ H s) (e : Rd H a (.ext (TDp a xs))) (tk : TKeys H xs) (eb : Rd H b (.tup (ks.map V.int)))
    (h : ∀ s', Inv X pins σ H s' → Q (.bool (valT xs ks).isSome) s') : wpAny (model X.prog X.w) A (compareOp .In (.ref b) (.ref a)) Q E s := by
  obtain ⟨z, hd, zs, rel, dd⟩ := td_of I.hok e tk
  refine wpAny_in_heap (tupleKind_room_in1 hu) (tkey_of I.hok eb) hd dd ?_
  have q := (rel.val ks).isSome_eq
  rw [Option.isSome_map] at q
  rw [← q]
  exact h _ (I.tok _)
theorem t_notIn {Q : Value → Shared → Prop} (hu : A.units + 1 < cLine) (I : Inv X pins σ H s) (e : Rd H a (.ext (TDp a xs))) (tk : TKeys H xs) (eb : Rd H b (.tup (ks.map V.int)))
    (h : ∀ s', Inv X pins σ H s' → Q (.bool (!(valT xs ks).isSome)) s') : wpAny (model X.prog X.w) A (compareOp .NotIn (.ref b) (.ref a)) Q E s := by
  obtain ⟨z, hd, zs, rel, dd⟩ := td_of I.hok e tk
  refine wpAny_notIn_heap (tupleKind_room_in1 hu) (tkey_of I.hok eb) hd dd ?_
  have q := (rel.val ks).isSome_eq
  rw [Option.isSome_map] at q
  rw [← q]
  exact h _ (I.tok _)
theorem t_setItem {Q : Unit → Shared → Prop} (hu : A.units + 1 < cLine) (I : Inv X pins σ H s) (e : H a = some (.ext (TDp a xs))) (tk : TKeys H xs) (eb : Rd H b (.tup (ks.map V.int))) (l : xs.length < sizeLine) (rv : RelV v r)
    (h : ∀ s', Inv X pins σ (upd H a (.ext (TDp a (putT xs ks b v)))) s' → Q () s') : wpAny (model X.prog X.w) A (setItem (.ref a) (.ref b) r) Q E s := by
  obtain ⟨z, hd, zs, rel, dd⟩ := td_of I.hok (.inl e) tk
  have hz : zs.length ≤ sizeLine := by rw [← Paired.length rel]; exact z
  have hl : (putT xs ks b v).length ≤ sizeLine := by have := putT_len xs ks b v; omega
  refine wpAny_setItem_heap (hsz := hz) (tupleKind_room_in1 hu) (tkey_of I.hok eb) dd fun h' dd' hs => h _ ?_
  have he : ∃ q, h'.get? a = some q := let ⟨q, _, _, hq, _⟩ := dd'; ⟨q, hq⟩
  exact d_write I (by rw [e]; exact True.intro) hs he (td_new hl hd (rel.put ks rv) dd').okX
theorem t_get1 {Q : Value → Shared → Prop} (hu : A.units + 1 < cLine) (I : Inv X pins σ H s) (e : Rd H a (.ext (TDp a xs))) (tk : TKeys H xs) (eb : Rd H b (.tup (ks.map V.int)))
    (h : ∀ w' s', Inv X pins σ H s' → RelV ((valT xs ks).getD .non) w' → Q w' s') : wpAny (model X.prog X.w) A (call (.builtin "dict.get") [.ref a, .ref b]) Q E s := by
  obtain ⟨z, hd, zs, rel, dd⟩ := td_of I.hok e tk
  exact call_meetsIn PySem.F.slot_dict_get dd.typeIs PySem.F.entry_dict_get (PySem.F.args_dict_get_2 _ _) (meetsH_dict_get (tupleKind (intKind X.prog X.w)) a b hd) ⟨tupleKind_room_in1 hu, ks, zs, tkey_of I.hok eb, dd, h _ _ (I.tok _) ((rel.val ks).getD rfl)⟩
theorem t_get2 {d : V} {Q : Value → Shared → Prop} (hu : A.units + 1 < cLine) (I : Inv X pins σ H s) (e : Rd H a (.ext (TDp a xs))) (tk : TKeys H xs) (eb : Rd H b (.tup (ks.map V.int))) (rd : RelV d r)
    (h : ∀ w' s', Inv X pins σ H s' → RelV ((valT xs ks).getD d) w' → Q w' s') : wpAny (model X.prog X.w) A (call (.builtin "dict.get") [.ref a, .ref b, r]) Q E s := by
  obtain ⟨z, hd, zs, rel, dd⟩ := td_of I.hok e tk
  exact call_meetsIn PySem.F.slot_dict_get dd.typeIs PySem.F.entry_dict_get (PySem.F.args_dict_get_3 _ _ _) (meetsH_dict_get_default (tupleKind (intKind X.prog X.w)) a b hd r) ⟨tupleKind_room_in1 hu, ks, zs, tkey_of I.hok eb, dd, h _ _ (I.tok _) ((rel.val ks).getD rd)⟩
theorem td_is (I : Inv X pins σ H s) (e : Rd H a (.ext (TDp a xs))) : s.TypeIs (.ref a) "dict" ∧ (∀ b, Value.ref a = .ref b → ∃ ob, s.heap.get? b = some ob ∧ ob.dict = none) ∧ (a == sysModules) = false := by
  obtain ⟨⟨t1, t2, zs, t3, t4, P', w', o, es, ep, e1, e2, e3, e4⟩, _, _⟩ := (show ObjOk X.prog X.w H s.heap a (.ext (TDp a xs)) from e.ok I.hok)
  exact ⟨⟨o, e1, e2.1⟩, fun b q => by cases q; exact ⟨o, e1, e2.2.1⟩, t2⟩
theorem td_raw (I : Inv X pins σ H s) (e : Rd H a (.ext (TDp a xs))) : ∃ (es : Array DictEntry) (ep : Nat), s.heap.DictRaw a es ep ∧ es.size = xs.length ∧ ∀ (i : Nat) (x : List Int × Addr × V), xs[i]? = some x → ∃ en, es[i]? = some en ∧ en.key = .ref x.2.1 ∧ RelV x.2.2 en.val := by
  obtain ⟨⟨t1, t2, zs, t3, t4, P', w', o, es, ep, e1, e2, e3, e4⟩, _, _⟩ := (show ObjOk X.prog X.w H s.heap a (.ext (TDp a xs)) from e.ok I.hok)
  refine ⟨es, ep, ⟨o, e1, e2, e3⟩, by rw [size_of_entries e4]; exact (Paired.length t3).symm, fun i x hx => ?_⟩
  obtain ⟨z, hz, r1, r2, r3⟩ := paired_get t3 hx
  have q := entry_at e4 i
  rw [hz] at q
  exact ⟨_, q, by rw [r2]; rfl, r3⟩
/-- a new one, with no pair -/
theorem t_new {pos : Pos} {Q : Value → Shared → Prop} (I : Inv X pins σ H s) (h : ∀ p s', H p = none → Inv X pins σ (upd H p (.ext (TDp p []))) s' → Q (.ref p) s') : wpAny (model X.prog X.w) A (eval (.Dict [] [] pos) X.env) Q E s := by
  have hn := I.hok.fresh (Nat.le_refl s.heap.objs.size)
  have t : TDp s.heap.objs.size [] (s.heap.push { cls := .type "dict", data := .dict #[] }) :=
    ⟨Nat.zero_le _, beq_eq_false_iff_ne.mpr (Ne.symm (Nat.ne_of_lt I.big)), [], .nil, List.nodup_nil, X.prog, X.w, _, #[], 0, Heap.get?_push_size _ rfl, ⟨rfl, rfl, rfl⟩, rfl, rfl⟩
  have I1 := I.laid (a := s.heap.objs.size) (o := .ext (TDp s.heap.objs.size [])) (h' := s.heap.push { cls := .type "dict", data := .dict #[] }) (t' := s.toks) (fun _ _ q => Heap.get?_push_of_some _ q) (Nat.le_refl _) t.okX
  exact wpAny_Dict_empty (h _ _ hn I1)
end
end Ev
end

section
set_option Elab.async false
set_option linter.all false
set_option maxRecDepth 100000
set_option maxHeartbeats 1000000
/-! Snd0b: dicts of tuple keys: pairs one by one, values as a list, a display of one pair. -/
namespace Ev
open PySem PySem.Spec L2 PyProof.Rows
/-- the pairs, each a new tuple -/
def ItiT (d : Addr) (o : Obj) (xs : TX) : L2.It :=
  ⟨fun i H => H d = some (.frz o (.ext (TDp d xs))) ∧ i < xs.length, fun i H x H' => ∃ T p, xs[i]? = some p ∧ x = .ref T ∧ H T = none ∧ H' = upd H T (.tup [.ref p.2.1, p.2.2]), fun i H => H d = some (.frz o (.ext (TDp d xs))) ∧ xs.length ≤ i⟩
section
variable {X : Cx} {pins : List (Addr × Obj)} {σ : L2.St} {H : Hp} {s : Shared} {d : Addr} {o : Obj}
theorem frzTD {xs : TX} (I : Inv X pins σ H s) (h : H d = some (.frz o (.ext (TDp d xs)))) :
    (d == sysModules) = false ∧ s.heap.get? d = some o ∧ o.ExactDict ∧ ∃ (es : Array DictEntry) (ep : Nat), o.data = .dict es ep ∧ s.heap.DictRaw d es ep ∧ es.size = xs.length ∧ ∀ (i : Nat) (x : List Int × Addr × V), xs[i]? = some x → ∃ en, es[i]? = some en ∧ en.key = .ref x.2.1 ∧ RelV x.2.2 en.val := by
  have hd : s.heap.get? d = some o := (I.hok d _ h).1
  obtain ⟨es, ep, hr, hs, hk⟩ := td_raw I (.inr ⟨o, h⟩)
  obtain ⟨_, _, hm⟩ := td_is I (.inr ⟨o, h⟩)
  obtain ⟨o', h1, h2, h3⟩ := id hr
  rw [hd] at h1
  cases h1
  exact ⟨hm, hd, h2, es, ep, h3, hr, hs, hk⟩
end
theorem turn_itemsT {P : Program} {w : World} {K : PySem.W.Frag} {d : Addr} {o : Obj} {es : Array DictEntry} {ep : Nat} {xs : TX} {elts : List Expr} {kk : Nat} {tpos : Pos} (it : Addr) (hod : o.data = .dict es ep) (hsz : es.size = xs.length) :
    Turn P w K (.Tuple elts kk tpos) (ItiT d o xs) [it] it (fun i h => ∃ ok ov, IsItemIter h it d i es.size ep ok ov) where
  mem := by simp
  obj := fun i h st b hb => by
    have e : b = it := by simpa using hb
    subst e
    obtain ⟨ok, ov, e⟩ := st
    exact ⟨_, e, fun v z => nomatch z⟩
  keep := fun i h h' st k => let ⟨ok, ov, e⟩ := st; ⟨ok, ov, k it (by simp) _ e⟩
  item := by
    intro X hP hw hK hc i pins s σ H E I hf st hg
    subst hP hw hK
    obtain ⟨hd, hi⟩ := hg
    obtain ⟨hs, hgd, hx, es', ep', hdt, hr, _, hk⟩ := frzTD I hd
    obtain ⟨rfl, rfl⟩ := dict_ep hod hdt
    have hi' : i < es'.size := by omega
    obtain ⟨p, hp⟩ : ∃ p, xs[i]? = some p := ⟨xs[i], List.getElem?_eq_getElem hi⟩
    obtain ⟨en, he, hen, rv⟩ := hk i p hp
    have een : es'[i] = en := by
      rw [Array.getElem?_eq_getElem hi'] at he
      exact Option.some.inj he
    obtain ⟨ok, ov, hit⟩ := st
    have hlt : it < s.heap.objs.size := Heap.lt_size hit
    refine DT.nextI hit hr hi' fun h' ho hT hz hk => ?_
    rw [een, hen] at hT
    refine ⟨_, rfl, wpAny_letOwnedTupleGo_items (s := { s with heap := h' }) ho fun h'' he' sb => ?_⟩
    have hT2 : h''.get? s.heap.objs.size = some { cls := .type "tuple", data := .seq #[.ref p.2.1, en.val] } := (sb.2 _ (Nat.ne_of_gt hlt)).trans hT
    have new : ObjOk X.prog X.w (upd H s.heap.objs.size (.tup [.ref p.2.1, p.2.2])) h'' s.heap.objs.size (.tup [.ref p.2.1, p.2.2]) :=
      ⟨by show 2 ≤ sizeLine; decide, [.ref p.2.1, en.val], .cons rfl (.cons rv .nil), ⟨_, hT2, rfl, _, rfl⟩⟩
    have I1 : Inv X pins σ (upd H s.heap.objs.size (.tup [.ref p.2.1, p.2.2])) { s with heap := h'' } :=
      I.turnedNew (t' := s.toks) (ch := [it]) (fun b ob hb e => (sb.2 b (by simpa using hb)).trans (hk b ob (by simpa using hb) e)) hf (Nat.le_refl _) new
    refine ⟨.ref s.heap.objs.size, _, I1, rfl, ⟨_, p, hp, rfl, I.hok.fresh (Nat.le_refl _), rfl⟩, ⟨_, _, he'⟩, fun b hb => ?_⟩
    have e : b = it := by simpa using hb
    rw [e, upd_ne (Nat.ne_of_lt hlt)]
    exact (hf it (by simp)).1
  done := by
    intro X hP hw hK hc i pins s σ H E I hf st hg
    subst hP hw hK
    obtain ⟨hd, hi⟩ := hg
    obtain ⟨f0, f1, f2, f3, f4, f5⟩ := hf it (by simp)
    obtain ⟨hs, hgd, hx, es', ep', hdt, hr, _, hk⟩ := frzTD I hd
    obtain ⟨rfl, rfl⟩ := dict_ep hod hdt
    obtain ⟨ok, ov, hit⟩ := st
    exact DT.endI (I.ok.hd hc) hit hr (by omega) fun h' eb => ⟨rfl, I.turned (t' := s.toks) (fun b ob hb e => eb b ob hb e) f0 f1 f3 f4 f5⟩
  self := fun A i s Q E st h => let ⟨_, _, e⟩ := st; PySem.W.kcp_self e h
/-- the keys, each its own tuple -/
def ItkT (d : Addr) (o : Obj) (xs : TX) : L2.It :=
  ⟨fun i H => H d = some (.frz o (.ext (TDp d xs))) ∧ i < xs.length, fun i H x H' => H' = H ∧ ∃ p, xs[i]? = some p ∧ x = .ref p.2.1, fun i H => H d = some (.frz o (.ext (TDp d xs))) ∧ xs.length ≤ i⟩
theorem turn_keysTD {P : Program} {w : World} {K : PySem.W.Frag} {d : Addr} {o : Obj} {es : Array DictEntry} {ep : Nat} {xs : TX} {tg : Expr} (it : Addr) (hod : o.data = .dict es ep) : Turn P w K tg (ItkT d o xs) [it] it (fun i h => h.IsKeyIter it d i xs.length ep) where
  mem := by simp
  obj := fun i h st b hb => by
    have e : b = it := by simpa using hb
    subst e
    obtain ⟨oi, e, c, dd⟩ := st
    exact ⟨oi, e, fun v z => by rw [dd] at z; cases z⟩
  keep := fun i h h' st k => st.at fun oi e => k it (by simp) oi e
  item := by
    intro X hP hw hK hc i pins s σ H E I hf st hg
    subst hP hw hK
    obtain ⟨hd, hi⟩ := hg
    obtain ⟨f0, f1, f2, f3, f4, f5⟩ := hf it (by simp)
    obtain ⟨hs, hgd, hx, es', ep', hdt, hr, hsz, ent⟩ := frzTD I hd
    obtain ⟨rfl, rfl⟩ := dict_ep hod hdt
    obtain ⟨p, hp⟩ : ∃ p, xs[i]? = some p := ⟨xs[i], List.getElem?_eq_getElem hi⟩
    obtain ⟨en, hen, hkey, _⟩ := ent i p hp
    refine next_key_item st hgd hdt hsz hen fun h' st' sb => ?_
    have I1 : Inv X pins σ H { s with heap := h' } := I.turned (t' := s.toks) (fun b ob hb e => (sb.2 b hb).trans e) f0 f1 f3 f4 f5
    obtain ⟨oi, e, c, dd⟩ := id st'
    exact ⟨en.key, rfl, go_of (s := { s with heap := h' }) e c dd (by decide) ⟨.ref p.2.1, H, I1, hkey, ⟨rfl, p, hp, rfl⟩, st', fun b hb => (hf b hb).1⟩⟩
  done := by
    intro X hP hw hK hc i pins s σ H E I hf st hg
    subst hP hw hK
    obtain ⟨hd, hi⟩ := hg
    obtain ⟨f0, f1, f2, f3, f4, f5⟩ := hf it (by simp)
    obtain ⟨hs, hgd, hx, es', ep', hdt, hr, hsz, ent⟩ := frzTD I hd
    obtain ⟨rfl, rfl⟩ := dict_ep hod hdt
    exact next_key_end (I.ok.hd hc) st hgd hdt hsz hi fun h' eb => ⟨rfl, I.turned (t' := s.toks) (fun b ob hb e => eb b ob hb e) f0 f1 f3 f4 f5⟩
  self := fun A i s Q E st h => by
    refine wpAny_pyIter_slot st.typeIs PySem.F.slot_dict_keyiterator_iter (wpAny_call_entry PySem.F.slot_dict_keyiterator_iter st.typeIs PySem.F.entry_dict_keyiterator_iter ?_ (PySem.F.args_dict_keyiterator_iter_1 _))
    show wpAny _ _ (ret (.ref it)) _ _ s
    exact wpAny_pure ⟨_, rfl, "dict_keyiterator", _, st.typeIs, PySem.F.slot_dict_keyiterator_next.lookup, h⟩
def iItemsT (td : TE) : TI := fun σ H R => td σ H fun x H1 => ∃ d o xs, x = .ref d ∧ H1 d = some (.frz o (.ext (TDp d xs))) ∧ R (ItiT d o xs) H1
section
variable {X : Cx} {tg e : Expr} {td : TE} {apos cpos : Pos}
/-- the pairs of a dict of either kind -/
theorem pi_itemsB {elts : List Expr} {kk : Nat} {tpos : Pos} (he : PE X e td) (hbase : attributeBase e "items" X.env (eval e X.env) = eval e X.env) (hline : (apos.endLine == cpos.line) = true) :
    PI X (.Tuple elts kk tpos) (.Call (.Attribute e "items" apos) [] [] cpos) (fun σ H R => td σ H fun x H1 => ∃ d o, x = .ref d ∧ ((∃ kvs, H1 d = some (.frz o (.dK kvs)) ∧ R (Iti d o kvs) H1) ∨ ∃ xs, H1 d = some (.frz o (.ext (TDp d xs))) ∧ R (ItiT d o xs) H1)) := by
  refine ⟨fun pins s σ H R I h => ?_⟩
  refine wpAny_Call_method (T := "dict") (id := "dict.items") hbase rfl hline PySem.F.plainAttrs_dict PySem.F.slot_dict_items PySem.F.type_dict_items (thn (he.run pins s σ H _ I h) fun u s1 ⟨x, H1, I1, rx, d, o, ex, q⟩ => ?_)
  subst ex
  obtain rfl : u = Value.ref d := rx
  have I2 : Inv X pins σ H1 { s1 with heap := s1.heap.push { cls := .type "dict_items", data := .fields #[.ref d] } } := I1.kept (t' := s1.toks) fun b ob q => Heap.get?_push_of_some _ q
  rcases q with ⟨kvs, hd, q⟩ | ⟨xs, hd, q⟩
  · obtain ⟨hs, hgd, hx, es, ep, vs, hdt, hsz, kv, hm⟩ := I1.frzK hd
    have hl : kvs.length = vs.length := Paired.length kv
    refine ⟨hm.dictOf.typeIs, hm.dictOf.mapOf.noDict, ?_⟩
    have fin : wpAny (model X.prog X.w) X.A (pyIter (.ref s1.heap.objs.size)) (PIE X pins σ (.Tuple elts kk tpos) R) X.xe { s1 with heap := s1.heap.push { cls := .type "dict_items", data := .fields #[.ref d] } } := by
      refine wpAny_pyIter_items (d := d) (knd := mixKind X.prog X.w) ⟨_, Heap.get?_push_size _ rfl, rfl, rfl⟩ (hm.push _) (pi_one (tk := s1.toks) I2 _ (turn_items _ hdt) ⟨.none, .none, ?_⟩ q)
      rw [hl]
      exact Heap.get?_push_size _ rfl
    show wpAny _ _ (callWith cpos (.builtin "dict.items") [.ref d] [] []) _ X.xe s1
    exact method_meetsIn PySem.F.slot_dict_items PySem.F.entry_dict_items rfl (PySem.evalArgs_none ⟨rfl, hm.dictOf.typeIs, PySem.F.args_dict_items_1 _, _, meets_dict_items (mixKind X.prog X.w) d hs, ⟨vs, hm.dictOf⟩, fin⟩)
  · obtain ⟨hs, hgd, hx, es, ep, hdt, hr, hsz, hk⟩ := frzTD I1 hd
    obtain ⟨t1, t2, _⟩ := td_is I1 (.inr ⟨o, hd⟩)
    refine ⟨t1, t2, ?_⟩
    have fin : wpAny (model X.prog X.w) X.A (pyIter (.ref s1.heap.objs.size)) (PIE X pins σ (.Tuple elts kk tpos) R) X.xe { s1 with heap := s1.heap.push { cls := .type "dict_items", data := .fields #[.ref d] } } :=
      DT.iterI (d := d) (es := es) (ep := ep) ⟨_, Heap.get?_push_size _ rfl, rfl, rfl⟩ (DT.Raw.push hr _) (pi_one (tk := s1.toks) I2 _ (turn_itemsT _ hdt hsz) ⟨.none, .none, Heap.get?_push_size _ rfl⟩ q)
    show wpAny _ _ (callWith cpos (.builtin "dict.items") [.ref d] [] []) _ X.xe s1
    exact method_meetsIn PySem.F.slot_dict_items PySem.F.entry_dict_items rfl (PySem.evalArgs_none ⟨rfl, t1, PySem.F.args_dict_items_1 _, _, DT.meetsItems (es := es) (ep := ep) hs, hr, fin⟩)
end
end Ev
end

section
set_option Elab.async false
set_option linter.all false
set_option maxRecDepth 100000
set_option maxHeartbeats 1000000
/-! Snd0c: list(d.values()), a display of one pair. -/
namespace Ev
open PySem PySem.Spec L2 PyProof.Rows
/-- a dict of either kind, with its values -/
def DVals (H : Hp) (d : Addr) (vs : List V) : Prop := (∃ kvs, Rd H d (.dK kvs) ∧ vs = kvs.map (·.2)) ∨ ∃ xs : TX, Rd H d (.ext (TDp d xs)) ∧ vs = xs.map fun x => x.2.2
theorem kv_map {kvs : List (Key × V)} {vs : List (Key × Value)} (h : KV kvs vs) : Vals (kvs.map (·.2)) (vs.map (·.2)) := by
  induction h with
  | nil => exact .nil
  | cons r t ih => exact .cons r.2 ih
theorem pair_ix {α β : Type} {F : α → β → Prop} : ∀ {xs : List α} {ys : List β}, xs.length = ys.length → (∀ (i : Nat) (x : α) (y : β), xs[i]? = some x → ys[i]? = some y → F x y) → Paired F xs ys
  | [], [], _, _ => .nil
  | [], _ :: _, h, _ => by simp at h
  | _ :: _, [], h, _ => by simp at h
  | x :: xs, y :: ys, h, k => .cons (k 0 x y rfl rfl) (pair_ix (by simpa using h) fun i a b ha hb => k (i + 1) a b (by simpa using ha) (by simpa using hb))
section
variable {X : Cx} {pins : List (Addr × Obj)} {σ : L2.St} {H : Hp} {s : Shared} {d : Addr}
theorem dvals_raw {vs : List V} (I : Inv X pins σ H s) (g : DVals H d vs) : (d == sysModules) = false ∧ ∃ (es : Array DictEntry) (ep : Nat), s.heap.DictRaw d es ep ∧ es.size = vs.length ∧ vs.length ≤ sizeLine ∧ ∀ (i : Nat) (v : V), vs[i]? = some v → ∃ en, es[i]? = some en ∧ RelV v en.val := by
  rcases g with ⟨kvs, e, rfl⟩ | ⟨xs, e, rfl⟩
  · obtain ⟨z, hd, vs, kv, dd⟩ := dk_rd I.hok e
    obtain ⟨es, ep, hr, hs, hk⟩ := dd.raw
    have hl : kvs.length = vs.length := Paired.length kv
    refine ⟨hd, es, ep, hr, by rw [List.length_map]; omega, by rw [List.length_map]; exact z, fun i v hv => ?_⟩
    obtain ⟨w, hw, rw'⟩ := Vals.get (kv_map kv) hv
    rw [List.getElem?_map] at hw
    obtain ⟨q, hq, e2⟩ := Option.map_eq_some_iff.mp hw
    have hi : i < es.size := by
      have := (List.getElem?_eq_some_iff.mp hq).1
      omega
    obtain ⟨_, h2⟩ := hk i hi q.1 q.2 hq
    exact ⟨es[i], Array.getElem?_eq_getElem hi, by rw [h2, e2]; exact rw'⟩
  · obtain ⟨es, ep, hr, hs, hk⟩ := td_raw I e
    obtain ⟨_, _, hm⟩ := td_is I e
    obtain ⟨z, _⟩ := (show ObjOk X.prog X.w H s.heap d (.ext (TDp d xs)) from e.ok I.hok).1
    refine ⟨hm, es, ep, hr, by rw [List.length_map]; exact hs, by rw [List.length_map]; exact z, fun i v hv => ?_⟩
    rw [List.getElem?_map] at hv
    obtain ⟨q, hq, e2⟩ := Option.map_eq_some_iff.mp hv
    obtain ⟨en, h1, _, h3⟩ := hk i q hq
    exact ⟨en, h1, e2 ▸ h3⟩
end
def vwO (d : Addr) : Obj := { cls := .type "dict_values", data := .fields #[.ref d] }
def VwP (p d : Addr) (h : Heap) : Prop := h.get? p = some (vwO d)
section
variable {X : Cx} {tg e : Expr} {td : TE} {apos cpos : Pos}
theorem pe_values (he : PE X e td) (hbase : attributeBase e "values" X.env (eval e X.env) = eval e X.env) (hline : (apos.endLine == cpos.line) = true) :
    PE X (.Call (.Attribute e "values" apos) [] [] cpos) (fun σ H Q => td σ H fun x H1 => ∃ d vs, x = .ref d ∧ DVals H1 d vs ∧ ∀ p, H1 p = none → Q (.ref p) (upd H1 p (.ext (VwP p d)))) := by
  refine ⟨fun pins s σ H Q I h => ?_⟩
  refine wpAny_Call_method (T := "dict") (id := "dict.values") hbase rfl hline PySem.F.plainAttrs_dict PySem.F.slot_dict_values PySem.F.type_dict_values (thn (he.run pins s σ H _ I h) fun u s1 ⟨x, H1, I1, rx, d, vs, ex, g, q⟩ => ?_)
  subst ex
  obtain rfl : u = Value.ref d := rx
  obtain ⟨hm, es, ep, hr, _⟩ := dvals_raw I1 g
  have hr' := hr
  obtain ⟨o, h1, h2, _⟩ := hr'
  refine ⟨hr.typeIs, fun b q => by cases q; exact ⟨o, h1, h2.2.1⟩, ?_⟩
  have hn := I1.hok.fresh (Nat.le_refl s1.heap.objs.size)
  have I2 := I1.laid (a := s1.heap.objs.size) (o := .ext (VwP s1.heap.objs.size d)) (h' := s1.heap.push (vwO d)) (t' := s1.toks) (fun _ _ q => Heap.get?_push_of_some _ q) (Nat.le_refl _)
    ⟨Heap.get?_push_size _ rfl, ⟨_, Heap.get?_push_size _ rfl⟩, fun g1 g2 a b => b _ a⟩
  show wpAny _ _ (callWith cpos (.builtin "dict.values") [.ref d] [] []) _ X.xe s1
  exact method_meetsIn PySem.F.slot_dict_values PySem.F.entry_dict_values rfl (PySem.evalArgs_none ⟨rfl, hr.typeIs, PySem.F.args_dict_values_1 _, _, PySem.meets_dict_values_raw d hm, ⟨es, ep, hr⟩, (⟨.ref s1.heap.objs.size, _, I2, rfl, q _ hn⟩ : EP X pins σ Q (.ref s1.heap.objs.size) _)⟩)
theorem call_list_vw (hc : X.calm = true) : CallR X (.type "list") (fun xs H Q => ∃ p d vs, xs = [.ref p] ∧ H p = some (.ext (VwP p d)) ∧ DVals H d vs ∧ ∀ q, H q = none → Q (.ref q) (upd H q (.lst vs))) := by
  intro pins s σ H xs us Q I r ⟨p, d, vs, e, hp, g, q⟩
  subst e
  obtain ⟨u, rfl⟩ : ∃ u, us = [u] := by
    cases r with
    | cons _ t => cases t; exact ⟨_, rfl⟩
  cases r with
  | cons rx _ =>
    obtain rfl : u = Value.ref p := rx
    obtain ⟨hm, es, ep, hr, hs, hz, hk⟩ := dvals_raw I g
    have hv : s.heap.get? p = some (vwO d) := (I.hok p _ hp).1
    refine PySem.W.kdl_call (PySem.KdlSrc.rawValues (r := p) (d := d) (es := es) (ep := ep)) (I.ok.hd hc) ⟨⟨_, hv, rfl, rfl⟩, hr⟩ (by omega) fun h' tk acc' c' hk' hD hacc => ?_
    have hn := I.hok.fresh (Nat.le_refl s.heap.objs.size)
    refine ⟨.ref s.heap.objs.size, _, I.laid (a := s.heap.objs.size) (o := .lst vs) (h' := h') (t' := tk) hk' (Nat.le_refl _) ⟨hz, acc'.toList, c', ?_, by simpa using hD⟩, rfl, q _ hn⟩
    obtain ⟨l1, l2⟩ := hacc
    refine pair_ix (by have e : acc'.toList.length = acc'.size := Array.length_toList; omega) ?_
    intro i v w hv hw
    obtain ⟨en, e1, e2⟩ := hk i v hv
    obtain ⟨hi, e3⟩ := l2 i w (by rw [← Array.getElem?_toList]; exact hw)
    rw [Array.getElem?_eq_getElem hi] at e1
    cases e1
    rw [e3]
    exact e2
/-- a display of one pair, its key a tuple of whole numbers -/
theorem pe_disp1 {k v : Expr} {tk tv : TE} {pos : Pos} (hu : X.A.units + 1 < cLine) (hk : PE X k tk) (hv : PE X v tv) :
    PE X (.Dict [some k] [v] pos) (fun σ H Q => ∀ p, H p = none → tk σ (upd H p (.ext (TDp p []))) fun x H1 => tv σ H1 fun y H2 => H2 p = some (.ext (TDp p [])) ∧ ∃ b ks, x = .ref b ∧ Rd H2 b (.tup (ks.map V.int)) ∧ Q (.ref p) (upd H2 p (.ext (TDp p [(ks, b, y)])))) := by
  refine ⟨fun pins s σ H Q I q => ?_⟩
  have hn := I.hok.fresh (Nat.le_refl s.heap.objs.size)
  have t : TDp s.heap.objs.size [] (s.heap.push { cls := .type "dict", data := .dict #[] }) :=
    ⟨Nat.zero_le _, beq_eq_false_iff_ne.mpr (Ne.symm (Nat.ne_of_lt I.big)), [], .nil, List.nodup_nil, X.prog, X.w, _, #[], 0, Heap.get?_push_size _ rfl, ⟨rfl, rfl, rfl⟩, rfl, rfl⟩
  have I1 := I.laid (a := s.heap.objs.size) (o := .ext (TDp s.heap.objs.size [])) (h' := s.heap.push { cls := .type "dict", data := .dict #[] }) (t' := s.toks) (fun _ _ q => Heap.get?_push_of_some _ q) (Nat.le_refl _) t.okX
  rw [arm_eval_Dict, zip_pairTrees [some k] [v] X.env pos rfl rfl, dictDisplay_pairs _ (by simp [pairTrees]) (by simp [pairTrees])]
  refine wpAny_bind (wpAny_standAt (wpAny_bind ?_))
  unfold subDict
  refine wpAny_bind (wpAny_alloc ?_)
  refine wpAny_bind (wpAny_holding ?_)
  rw [if_pos (by simp [pairTrees])]
  refine wpAny_bind (pairTrees_cons_walk (thn (hk.run pins _ σ _ _ I1 (q _ hn)) fun kv s2 ⟨x, H1, I2, rx, q2⟩ => thn (hv.run pins s2 σ H1 _ I2 q2) fun vv s3 ⟨y, H2, I3, ry, hp, b, ks, ex, hb, q3⟩ => pairTrees_nil_walk ?_))
  subst ex
  obtain rfl : kv = Value.ref b := rx
  refine wpAny_holding ?_
  rw [List.forIn_cons]
  obtain ⟨z, hd, zs, rel, dd⟩ := td_of I3.hok (.inl hp) (fun x hx => nomatch hx)
  cases rel
  refine wpAny_bind (wpAny_bind (wpAny_bind (wpAny_dictSet_heap (hsz := Nat.zero_le _) (show (tupleKind (intKind X.prog X.w)).room X.A from Nat.lt_of_succ_lt hu) (tkey_of I3.hok hb) dd fun h' dd' hs => wpAny_pure ?_)))
  show wpAny _ _ (forIn ([] : List (Value × Value)) PUnit.unit _) _ _ _
  rw [List.forIn_nil]
  refine wpAny_pure (wpAny_pure (wpAny_pure (wpAny_pure ?_)))
  have he : ∃ q, h'.get? s.heap.objs.size = some q := let ⟨q, _, _, hq, _⟩ := dd'; ⟨q, hq⟩
  exact ⟨.ref s.heap.objs.size, _, d_write I3 (by rw [hp]; exact True.intro) hs he (td_new (xs := [(ks, b, y)]) (by show 1 ≤ sizeLine; decide) hd (.cons ⟨rfl, rfl, ry⟩ .nil) dd').okX, rfl, q3⟩
end
end Ev
end

section
set_option Elab.async false
set_option linter.all false
set_option maxRecDepth 100000
set_option maxHeartbeats 1000000
/-! Snd1: plain data and the hand layer's heap: what stands for what. -/
namespace Ev
open PySem PySem.Spec L2

/-- a list that nobody writes -/
def Ro (K : PySem.W.Frag) (H : Hp) (a : Addr) (xs : List V) : Prop :=
  (∃ o, H a = some (.frz o (.lst xs))) ∨
    ∃ (o : Obj) (its : Array Value) (n : Nat), K.lookup a = some o ∧ o.cls = .type "list" ∧ o.dict = none ∧ o.data = .seq its n ∧ its.size ≤ sizeLine ∧ Vals xs its.toList
theorem Ro.seq {K : PySem.W.Frag} {H : Hp} {a : Addr} {xs : List V} (h : Ro K H a xs) : SqL K H a xs := h.elim (fun h => .inl (.inr h)) .inr
section
variable (K : PySem.W.Frag) (μ : List Addr) (H : Hp)
mutual
/-- v stands for the datum -/
def Rep : D → V → Prop
  | .non, v => v = .non
  | .bl b, v => v = .bl b
  | .int i, v => v = .int i
  | .str s, v => v = .str s
  | .tup ds, v => ∃ a vs its, v = .ref a ∧ H a = some (.frz (tupO its) (.tup vs)) ∧ RepL ds vs
  | .ref l, v => ∃ a, μ[l]? = some a ∧ v = .ref a
  | .fn _, _ => False
  | .rol ns, v => ∃ a, v = .ref a ∧ Ro K H a (ns.map V.int)
def RepL : List D → List V → Prop
  | [], vs => vs = []
  | d :: ds, vs => ∃ v r, vs = v :: r ∧ Rep d v ∧ RepL ds r
end
def kD : Key → D
  | .inl i => .int i
  | .inr s => .str s
def KVR (kvs : List (D × D)) (l : List (Key × V)) : Prop := Paired (fun (p : D × D) (q : Key × V) => p.1 = kD q.1 ∧ Rep K μ H p.2 q.2) kvs l
def KVT (kvs : List (D × D)) (l : TX) : Prop := Paired (fun (p : D × D) (q : List Int × Addr × V) => p.1 = .tup (q.1.map D.int) ∧ (∃ its, H q.2.1 = some (.frz (tupO its) (.tup (q.1.map V.int)))) ∧ Rep K μ H p.2 q.2.2) kvs l
/-- what stands at a place of the store -/
def ObjR (a : Addr) : O → Prop
  | .lst ds => ∃ vs, H a = some (.lst vs) ∧ RepL K μ H ds vs
  | .dct kvs => ∃ l, H a = some (.dK l) ∧ KVR K μ H kvs l
  | .lck kvs => ∃ ob l, H a = some (.frz ob (.dK l)) ∧ KVR K μ H kvs l
  | .dcT kvs => ∃ l, H a = some (.ext (TDp a l)) ∧ KVT K μ H kvs l
  | .lcT kvs => ∃ ob l, H a = some (.frz ob (.ext (TDp a l))) ∧ KVT K μ H kvs l
  | .set _ => False
  | .ins _ _ => False
structure StR (st : Sto) : Prop where
  len : μ.length = st.length
  nd : μ.Nodup
  ob : ∀ (l : Nat) (a : Addr) (o : O), μ[l]? = some a → st[l]? = some o → ObjR K μ H a o
structure EnvR (env : Env) (σ : L2.St) : Prop where
  len : env.length = σ.length
  at_ : ∀ (i : Nat) (d : D), env.get i = some d → ∃ v, σ[i]? = some (some v) ∧ Rep K μ H d v
end
/-- never written -/
def Imm : HO → Prop
  | .tup _ => True
  | .frz _ _ => True
  | _ => False
/-- what a datum leans on -/
def ImmD : HO → Prop
  | .tup _ => True
  | .frz _ u => (match u with | .tup _ => True | .lst _ => True | _ => False)
  | _ => False
theorem immD_imm {o : HO} (h : ImmD o) : Imm o := by
  cases o <;> first | exact h.elim | trivial
/-- the one heap behind the other -/
structure Le (μ : List Addr) (H : Hp) (μ' : List Addr) (H' : Hp) : Prop where
  pre : ∀ (l : Nat) (a : Addr), μ[l]? = some a → μ'[l]? = some a
  kp : ∀ a o, H a = some o → a ∉ μ → H' a = some o
  im : ∀ a o, H a = some o → Imm o → H' a = some o
  nw : ∀ a, a ∈ μ' → a ∉ μ → H a = none

section
variable {K : PySem.W.Frag} {μ μ' μ2 : List Addr} {H H' H2 : Hp} {st : Sto} {env : Env} {σ : L2.St}
theorem Le.refl : Le μ H μ H := ⟨fun _ _ h => h, fun _ _ h _ => h, fun _ _ h _ => h, fun a h n => absurd h n⟩
theorem Le.mem (L : Le μ H μ' H') {a : Addr} (h : a ∈ μ) : a ∈ μ' := by
  obtain ⟨i, hi⟩ := List.getElem?_of_mem h
  exact List.mem_of_getElem? (L.pre i a hi)
theorem Le.trans (L : Le μ H μ' H') (M : Le μ' H' μ2 H2) : Le μ H μ2 H2 where
  pre := fun l a h => M.pre l a (L.pre l a h)
  kp := fun a o h n => M.kp a o (L.kp a o h n) fun m => by
    have := L.nw a m n
    rw [h] at this
    cases this
  im := fun a o h i => M.im a o (L.im a o h i) i
  nw := fun a h n => by
    by_cases m : a ∈ μ'
    · exact L.nw a m n
    · cases e : H a with
      | none => rfl
      | some o =>
        have h1 := L.kp a o e n
        have h2 := M.nw a h m
        rw [h1] at h2
        cases h2
theorem Le.ro (L : Le μ H μ' H') {a : Addr} {xs : List V} (h : Ro K H a xs) : Ro K H' a xs := by
  rcases h with ⟨o, h⟩ | h
  · exact .inl ⟨o, L.im _ _ h trivial⟩
  · exact .inr h
theorem ro_imD (hi : ∀ a o, H a = some o → ImmD o → H' a = some o) {a : Addr} {xs : List V} (h : Ro K H a xs) : Ro K H' a xs := by
  rcases h with ⟨o, h⟩ | h
  · exact .inl ⟨o, hi _ _ h trivial⟩
  · exact .inr h
mutual
theorem Rep.monoD (hp : ∀ (l : Nat) (a : Addr), μ[l]? = some a → μ'[l]? = some a) (hi : ∀ a o, H a = some o → ImmD o → H' a = some o) : ∀ {d : D} {v : V}, Rep K μ H d v → Rep K μ' H' d v
  | .non, _, h => h
  | .bl _, _, h => h
  | .int _, _, h => h
  | .str _, _, h => h
  | .tup ds, _, h => by
    obtain ⟨a, vs, its, e, ha, r⟩ := h
    exact ⟨a, vs, its, e, hi _ _ ha trivial, RepL.monoD hp hi r⟩
  | .ref l, _, h => by
    obtain ⟨a, h1, e⟩ := h
    exact ⟨a, hp _ _ h1, e⟩
  | .fn _, _, h => h
  | .rol ns, _, h => by
    obtain ⟨a, e, h⟩ := h
    exact ⟨a, e, ro_imD hi h⟩
theorem RepL.monoD (hp : ∀ (l : Nat) (a : Addr), μ[l]? = some a → μ'[l]? = some a) (hi : ∀ a o, H a = some o → ImmD o → H' a = some o) : ∀ {ds : List D} {vs : List V}, RepL K μ H ds vs → RepL K μ' H' ds vs
  | [], _, h => h
  | d :: ds, _, h => by
    obtain ⟨v, r, e, h1, h2⟩ := h
    exact ⟨v, r, e, Rep.monoD hp hi h1, RepL.monoD hp hi h2⟩
end
theorem Rep.mono0 (hp : ∀ (l : Nat) (a : Addr), μ[l]? = some a → μ'[l]? = some a) (hi : ∀ a o, H a = some o → Imm o → H' a = some o) {d : D} {v : V} (h : Rep K μ H d v) : Rep K μ' H' d v := h.monoD hp fun a o e i => hi a o e (immD_imm i)
theorem RepL.mono0 (hp : ∀ (l : Nat) (a : Addr), μ[l]? = some a → μ'[l]? = some a) (hi : ∀ a o, H a = some o → Imm o → H' a = some o) {d : List D} {v : List V} (h : RepL K μ H d v) : RepL K μ' H' d v := h.monoD hp fun a o e i => hi a o e (immD_imm i)
theorem ro_im (hi : ∀ a o, H a = some o → Imm o → H' a = some o) {a : Addr} {xs : List V} (h : Ro K H a xs) : Ro K H' a xs := ro_imD (fun a o e i => hi a o e (immD_imm i)) h
theorem Rep.mono (L : Le μ H μ' H') {d : D} {v : V} (h : Rep K μ H d v) : Rep K μ' H' d v := h.monoD L.pre fun a o e i => L.im a o e (immD_imm i)
theorem RepL.mono (L : Le μ H μ' H') {ds : List D} {vs : List V} (h : RepL K μ H ds vs) : RepL K μ' H' ds vs := h.monoD L.pre fun a o e i => L.im a o e (immD_imm i)
theorem RepL.iff : ∀ {ds : List D} {vs : List V}, RepL K μ H ds vs ↔ Paired (Rep K μ H) ds vs
  | [], vs => ⟨fun h => by cases (show vs = [] from h); exact .nil, fun h => by cases h; rfl⟩
  | d :: ds, vs => ⟨fun h => by
      obtain ⟨v, r, rfl, h1, h2⟩ := h
      exact .cons h1 (RepL.iff.mp h2), fun h => by
      cases h with
      | cons h1 h2 => exact ⟨_, _, rfl, h1, RepL.iff.mpr h2⟩⟩
end
/-! ### rows in pairs -/
namespace Pr
variable {α β : Type} {F : α → β → Prop}
theorem get : ∀ {xs : List α} {ys : List β} {i : Nat} {x : α}, Paired F xs ys → xs[i]? = some x → ∃ y, ys[i]? = some y ∧ F x y
  | _, _, _, _, .nil, e => by simp at e
  | _, _, 0, _, .cons r _, e => by simp at e; subst e; exact ⟨_, rfl, r⟩
  | _, _, i + 1, x, .cons _ t, e => by
    obtain ⟨u, h1, h2⟩ := get (i := i) (x := x) t (by simpa using e)
    exact ⟨u, by simpa using h1, h2⟩
theorem app : ∀ {xs : List α} {ys : List β} {us : List α} {vs : List β}, Paired F xs ys → Paired F us vs → Paired F (xs ++ us) (ys ++ vs)
  | _, _, _, _, .nil, h => h
  | _, _, _, _, .cons r t, h => .cons r (app t h)
theorem take : ∀ {xs : List α} {ys : List β} (n : Nat), Paired F xs ys → Paired F (xs.take n) (ys.take n)
  | _, _, 0, _ => by simp; exact .nil
  | _, _, _ + 1, .nil => .nil
  | _, _, n + 1, .cons r t => .cons r (take n t)
theorem drop : ∀ {xs : List α} {ys : List β} (n : Nat), Paired F xs ys → Paired F (xs.drop n) (ys.drop n)
  | _, _, 0, h => h
  | _, _, _ + 1, .nil => .nil
  | _, _, n + 1, .cons _ t => drop n t
theorem rev {xs : List α} {ys : List β} (h : Paired F xs ys) : Paired F xs.reverse ys.reverse := by
  induction h with
  | nil => exact .nil
  | cons r t ih =>
    rw [List.reverse_cons, List.reverse_cons]
    exact app ih (.cons r .nil)
theorem set : ∀ {xs : List α} {ys : List β} (i : Nat) {x : α} {y : β}, Paired F xs ys → F x y → Paired F (xs.set i x) (ys.set i y)
  | _, _, _, _, _, .nil, _ => .nil
  | _, _, 0, _, _, .cons _ t, r => .cons r t
  | _, _, i + 1, _, _, .cons q t, r => .cons q (set i t r)
theorem eraseIdx : ∀ {xs : List α} {ys : List β} (i : Nat), Paired F xs ys → Paired F (xs.eraseIdx i) (ys.eraseIdx i)
  | _, _, _, .nil => .nil
  | _, _, 0, .cons _ t => t
  | _, _, i + 1, .cons r t => .cons r (eraseIdx i t)
theorem rep {xs : List α} {ys : List β} (h : Paired F xs ys) : ∀ k : Nat, Paired F (Ev.rep xs k) (Ev.rep ys k)
  | 0 => .nil
  | k + 1 => app h (rep h k)
theorem imp {G : α → β → Prop} : ∀ {xs : List α} {ys : List β}, Paired F xs ys → (∀ a b, F a b → G a b) → Paired G xs ys
  | _, _, .nil, _ => .nil
  | _, _, .cons r t, h => .cons (h _ _ r) (imp t h)
theorem nil_iff {xs : List α} {ys : List β} (h : Paired F xs ys) : xs = [] ↔ ys = [] := by
  cases h with
  | nil => simp
  | cons _ _ => simp
end Pr
/-! ### the runner's own list functions -/
theorem nth_eq {α : Type} : ∀ (xs : List α) (i : Nat), nth xs i = xs[i]?
  | [], i => by simp [nth]
  | x :: r, 0 => rfl
  | x :: r, i + 1 => by simp [nth, nth_eq r i]
theorem sget_eq : ∀ (st : Sto) (i : Nat), sget st i = st[i]?
  | [], i => by simp [sget]
  | x :: r, 0 => rfl
  | x :: r, i + 1 => by simp [sget, sget_eq r i]
theorem sput_eq : ∀ (st : Sto) (i : Nat) (o : O), sput st i o = st.set i o
  | [], i, o => by simp [sput]
  | x :: r, 0, o => rfl
  | x :: r, i + 1, o => by simp [sput, sput_eq r i o]
theorem slen_eq : ∀ st : Sto, slen st = st.length
  | [] => rfl
  | x :: r => by simp [slen, slen_eq r]
theorem setN_eq {α : Type} : ∀ (xs : List α) (i : Nat) (y : α), setN xs i y = xs.set i y
  | [], i, o => by simp [setN]
  | x :: r, 0, o => rfl
  | x :: r, i + 1, o => by simp [setN, setN_eq r i o]
theorem delIx_eq {α : Type} : ∀ (xs : List α) (i : Nat), delIx xs i = xs.eraseIdx i
  | [], i => by simp [delIx]
  | x :: r, 0 => rfl
  | x :: r, i + 1 => by simp [delIx, delIx_eq r i]
theorem rep_len {α : Type} (xs : List α) : ∀ k, (rep xs k).length = xs.length * k
  | 0 => rfl
  | k + 1 => by rw [rep, List.length_append, rep_len xs k, Nat.mul_succ]; omega
theorem small_iff {n : Nat} (h : small n = true) : n ≤ sizeLine := by
  have : n ≤ line := by simpa [small] using h
  rw [sizeLine_eq]
  exact this
/-! ### the environment -/
theorem Env.put_len : ∀ (env : Env) (i : Nat) (d : D), (env.put i d).length = env.length
  | [], _, _ => rfl
  | _ :: _, 0, _ => rfl
  | _ :: r, i + 1, d => by simp [Env.put, Env.put_len r i d]
theorem Env.put_same : ∀ (env : Env) (i : Nat) (d : D), i < env.length → (env.put i d).get i = some d
  | [], _, _, h => by simp at h
  | _ :: _, 0, _, _ => rfl
  | _ :: r, i + 1, d, h => by simpa [Env.put, Env.get] using Env.put_same r i d (by simpa using h)
theorem Env.put_other : ∀ (env : Env) (i j : Nat) (d : D), j ≠ i → (env.put i d).get j = env.get j
  | [], _, _, _, _ => rfl
  | _ :: _, 0, 0, _, h => absurd rfl h
  | _ :: _, 0, j + 1, _, _ => rfl
  | _ :: _, i + 1, 0, _, _ => rfl
  | _ :: r, i + 1, j + 1, d, h => by simpa [Env.put, Env.get] using Env.put_other r i j d (by omega)
theorem Env.get_lt : ∀ {env : Env} {i : Nat} {d : D}, env.get i = some d → i < env.length
  | [], _, _, h => by simp [Env.get] at h
  | _ :: _, 0, _, _ => by simp
  | _ :: r, i + 1, d, h => by simpa using Env.get_lt (env := r) (i := i) (d := d) (by simpa [Env.get] using h)
theorem Env.cut_len : ∀ (env : Env) (i : Nat), (env.cut i).length = env.length
  | [], _ => rfl
  | _ :: _, 0 => rfl
  | _ :: r, i + 1 => by simp [Env.cut, Env.cut_len r i]
theorem Env.cut_get : ∀ {env : Env} {i j : Nat} {d : D}, (env.cut i).get j = some d → j ≠ i ∧ env.get j = some d
  | [], _, _, _, h => by simp [Env.cut, Env.get] at h
  | _ :: _, 0, 0, _, h => by simp [Env.cut, Env.get] at h
  | _ :: _, 0, j + 1, _, h => ⟨by omega, by simpa [Env.cut, Env.get] using h⟩
  | _ :: _, i + 1, 0, _, h => ⟨by omega, by simpa [Env.cut, Env.get] using h⟩
  | _ :: r, i + 1, j + 1, d, h => by
    obtain ⟨h1, h2⟩ := Env.cut_get (env := r) (i := i) (j := j) (d := d) (by simpa [Env.cut, Env.get] using h)
    exact ⟨by omega, by simpa [Env.get] using h2⟩
theorem Env.wipe_len (env : Env) : ∀ vs : List Nat, (env.wipe vs).length = env.length
  | [] => rfl
  | v :: vs => by rw [Env.wipe, Env.cut_len, Env.wipe_len env vs]
theorem Env.wipe_get {env : Env} {j : Nat} {d : D} : ∀ {vs : List Nat}, (env.wipe vs).get j = some d → j ∉ vs ∧ env.get j = some d
  | [], h => ⟨by simp, h⟩
  | v :: vs, h => by
    obtain ⟨h1, h2⟩ := Env.cut_get (show ((env.wipe vs).cut v).get j = some d from h)
    obtain ⟨h3, h4⟩ := Env.wipe_get h2
    exact ⟨by simp [h1, h3], h4⟩
section
variable {K : PySem.W.Frag} {μ μ' μ2 : List Addr} {H H' H2 : Hp} {st : Sto} {env : Env} {σ : L2.St}
theorem EnvR.mono (L : Le μ H μ' H') (h : EnvR K μ H env σ) : EnvR K μ' H' env σ := ⟨h.len, fun i d e => by
  obtain ⟨v, h1, h2⟩ := h.at_ i d e
  exact ⟨v, h1, h2.mono L⟩⟩
theorem EnvR.put {i : Nat} {d : D} {v : V} (h : EnvR K μ H env σ) (r : Rep K μ H d v) : EnvR K μ H (env.put i d) (σ.set i (some v)) := by
  refine ⟨by rw [Env.put_len, List.length_set, h.len], fun j e he => ?_⟩
  by_cases hj : j = i
  · subst hj
    have hl := Env.get_lt he
    rw [Env.put_len] at hl
    rw [Env.put_same _ _ _ hl] at he
    cases he
    exact ⟨v, by rw [List.getElem?_set_self (by rw [← h.len]; exact hl)], r⟩
  · rw [Env.put_other _ _ _ _ hj] at he
    obtain ⟨w, h1, h2⟩ := h.at_ j e he
    exact ⟨w, by rw [List.getElem?_set_ne (Ne.symm hj)]; exact h1, h2⟩
theorem wipe_get {σ : L2.St} {j : Nat} {x : Option V} : ∀ {vs : List Nat}, j ∉ vs → σ[j]? = some x → (L2.wipe σ vs)[j]? = some x
  | [], _, h => h
  | v :: vs, hn, h => by
    simp only [List.mem_cons, not_or] at hn
    unfold L2.wipe
    rw [List.getElem?_set_ne (Ne.symm hn.1)]
    exact wipe_get hn.2 h
theorem EnvR.wipe (h : EnvR K μ H env σ) (vs : List Nat) : EnvR K μ H (env.wipe vs) (L2.wipe σ vs) := by
  refine ⟨by rw [Env.wipe_len, L2.wipe_length, h.len], fun j d e => ?_⟩
  obtain ⟨h1, h2⟩ := Env.wipe_get e
  obtain ⟨v, h3, h4⟩ := h.at_ j d h2
  exact ⟨v, wipe_get h1 h3, h4⟩
/-! ### the store -/
theorem nodup_ix' {N : List Addr} (hN : N.Nodup) {i j : Nat} {x : Addr} (a : N[i]? = Option.some x) (b : N[j]? = Option.some x) : i = j := by
  obtain ⟨h1, e1⟩ := List.getElem?_eq_some_iff.mp a
  obtain ⟨h2, e2⟩ := List.getElem?_eq_some_iff.mp b
  exact (List.getElem_inj hN).mp (e1.trans e2.symm)
theorem ObjR.isHo {a : Addr} {o : O} (h : ObjR K μ H a o) : ∃ ho, H a = Option.some ho := by
  cases o with
  | lst ds =>
    obtain ⟨vs, h, _⟩ := h
    exact ⟨_, h⟩
  | dct kvs =>
    obtain ⟨l, h, _⟩ := h
    exact ⟨_, h⟩
  | lck kvs =>
    obtain ⟨ob, l, h, _⟩ := h
    exact ⟨_, h⟩
  | dcT kvs =>
    obtain ⟨l, h, _⟩ := h
    exact ⟨_, h⟩
  | lcT kvs =>
    obtain ⟨ob, l, h, _⟩ := h
    exact ⟨_, h⟩
  | set _ => exact h.elim
  | ins _ _ => exact h.elim
theorem StR.isHo (S : StR K μ H st) {a : Addr} (h : a ∈ μ) : ∃ ho, H a = Option.some ho := by
  obtain ⟨l, hl⟩ := List.getElem?_of_mem h
  have hlt : l < st.length := by
    rw [← S.len]
    exact (List.getElem?_eq_some_iff.mp hl).1
  exact (S.ob l a st[l] hl (List.getElem?_eq_getElem hlt)).isHo
theorem StR.fresh (S : StR K μ H st) {p : Addr} (h : H p = none) : p ∉ μ := fun m => by
  obtain ⟨ho, e⟩ := S.isHo m
  rw [h] at e
  cases e
/-- a new thing that is none of the store's -/
theorem le_new (S : StR K μ H st) {p : Addr} (h : H p = none) (o : HO) : Le μ H μ (upd H p o) :=
  ⟨fun _ _ e => e, fun a x e _ => by rw [upd_ne (ne_of_none e h)]; exact e, fun a x e _ => by rw [upd_ne (ne_of_none e h)]; exact e, fun a m n => absurd m n⟩
/-- a new thing of the store -/
theorem le_lay (S : StR K μ H st) {p : Addr} (h : H p = none) (o : HO) : Le μ H (μ ++ [p]) (upd H p o) :=
  ⟨fun l a e => by rw [List.getElem?_append_left (List.getElem?_eq_some_iff.mp e).1]; exact e, fun a x e _ => by rw [upd_ne (ne_of_none e h)]; exact e, fun a x e _ => by rw [upd_ne (ne_of_none e h)]; exact e,
    fun a m n => by
      rcases List.mem_append.mp m with m | m
      · exact absurd m n
      · rw [List.mem_singleton.mp m]; exact h⟩
/-- a thing of the store is written -/
theorem le_put {l : Nat} {a : Addr} {u : HO} (hl : μ[l]? = Option.some a) (hu : H a = Option.some u) (ni : ¬ Imm u) (o : HO) : Le μ H μ (upd H a o) := by
  have m : a ∈ μ := List.mem_of_getElem? hl
  refine ⟨fun _ _ e => e, fun b x e n => ?_, fun b x e i => ?_, fun a m n => absurd m n⟩
  · rw [upd_ne (show b ≠ a from fun z => n (by rw [z]; exact m))]; exact e
  · rw [upd_ne (show b ≠ a from fun z => by rw [z, hu] at e; cases e; exact ni i)]; exact e
theorem KVR.mono {kvs : List (D × D)} {l : List (Key × V)} (L : Le μ H μ' H') (h : KVR K μ H kvs l) : KVR K μ' H' kvs l := Pr.imp h fun _ _ r => ⟨r.1, r.2.mono L⟩
theorem KVT.mono {kvs : List (D × D)} {l : TX} (L : Le μ H μ' H') (h : KVT K μ H kvs l) : KVT K μ' H' kvs l := Pr.imp h fun _ _ r => ⟨r.1, let ⟨its, e⟩ := r.2.1; ⟨its, L.im _ _ e trivial⟩, r.2.2.mono L⟩
theorem ObjR.mono {a : Addr} {o : O} (L : Le μ H μ' H') (e : H' a = H a) (h : ObjR K μ H a o) : ObjR K μ' H' a o := by
  cases o with
  | lst ds =>
    obtain ⟨vs, h, r⟩ := h
    exact ⟨vs, e.trans h, r.mono L⟩
  | dct kvs =>
    obtain ⟨l, h, r⟩ := h
    exact ⟨l, e.trans h, r.mono L⟩
  | lck kvs =>
    obtain ⟨ob, l, h, r⟩ := h
    exact ⟨ob, l, e.trans h, r.mono L⟩
  | dcT kvs =>
    obtain ⟨l, h, r⟩ := h
    exact ⟨l, e.trans h, r.mono L⟩
  | lcT kvs =>
    obtain ⟨ob, l, h, r⟩ := h
    exact ⟨ob, l, e.trans h, r.mono L⟩
  | set _ => exact h
  | ins _ _ => exact h
theorem StR.new (S : StR K μ H st) {p : Addr} (h : H p = none) (o : HO) : StR K μ (upd H p o) st := ⟨S.len, S.nd, fun l a x e1 e2 => by
  have hp : a ≠ p := fun z => S.fresh h (z ▸ List.mem_of_getElem? e1)
  exact (S.ob l a x e1 e2).mono (le_new S h o) (upd_ne hp)⟩
theorem StR.lay (S : StR K μ H st) {p : Addr} (h : H p = none) {o : O} {ho : HO} (r : ObjR K (μ ++ [p]) (upd H p ho) p o) : StR K (μ ++ [p]) (upd H p ho) (st ++ [o]) := by
  have hp := S.fresh h
  refine ⟨by simp [S.len], ?_, fun l a x e1 e2 => ?_⟩
  · rw [List.nodup_append]
    refine ⟨S.nd, by simp, fun a ha b hb => ?_⟩
    rw [List.mem_singleton.mp hb]
    exact fun z => hp (z ▸ ha)
  · by_cases hl : l < μ.length
    · rw [List.getElem?_append_left hl] at e1
      rw [List.getElem?_append_left (by rw [← S.len]; exact hl)] at e2
      exact (S.ob l a x e1 e2).mono (le_lay S h ho) (upd_ne fun z => hp (z ▸ List.mem_of_getElem? e1))
    · have hl2 : l = μ.length := by
        have := (List.getElem?_eq_some_iff.mp e1).1
        simp at this
        omega
      subst hl2
      rw [List.getElem?_append_right (Nat.le_refl _)] at e1
      rw [S.len, List.getElem?_append_right (Nat.le_refl _)] at e2
      simp at e1 e2
      subst e1 e2
      exact r
theorem StR.put (S : StR K μ H st) {l : Nat} {a : Addr} {u : HO} (hl : μ[l]? = Option.some a) (hu : H a = Option.some u) (ni : ¬ Imm u) {o : O} {ho : HO} (r : ObjR K μ (upd H a ho) a o) : StR K μ (upd H a ho) (st.set l o) := by
  refine ⟨by simp [S.len], S.nd, fun k b x e1 e2 => ?_⟩
  by_cases hk : k = l
  · subst hk
    rw [hl] at e1
    cases e1
    have := (List.getElem?_eq_some_iff.mp e2).1
    rw [List.length_set] at this
    rw [List.getElem?_set_self this] at e2
    cases e2
    exact r
  · rw [List.getElem?_set_ne (Ne.symm hk)] at e2
    have hb : b ≠ a := fun z => by
      subst z
      exact hk (nodup_ix' S.nd e1 hl)
    exact (S.ob k b x e1 e2).mono (le_put hl hu ni ho) (upd_ne hb)
/-! ### a list that stands outside of the store -/
theorem im_out {D : Addr} {u : HO} (h : H D = some u) (ni : ¬ Imm u) (o : HO) : ∀ a x, H a = some x → Imm x → upd H D o a = some x := fun a x e i => by
  rw [upd_ne (fun z => by rw [z, h] at e; cases e; exact ni i)]
  exact e
theorem ObjR.monoD {a : Addr} {o : O} (hp : ∀ (l : Nat) (a : Addr), μ[l]? = some a → μ'[l]? = some a) (hi : ∀ a o, H a = some o → ImmD o → H' a = some o) (e : H' a = H a) (h : ObjR K μ H a o) : ObjR K μ' H' a o := by
  cases o with
  | lst ds =>
    obtain ⟨vs, h, r⟩ := h
    exact ⟨vs, e.trans h, r.monoD hp hi⟩
  | dct kvs =>
    obtain ⟨l, h, r⟩ := h
    exact ⟨l, e.trans h, Pr.imp r fun _ _ r => ⟨r.1, r.2.monoD hp hi⟩⟩
  | lck kvs =>
    obtain ⟨ob, l, h, r⟩ := h
    exact ⟨ob, l, e.trans h, Pr.imp r fun _ _ r => ⟨r.1, r.2.monoD hp hi⟩⟩
  | dcT kvs =>
    obtain ⟨l, h, r⟩ := h
    exact ⟨l, e.trans h, Pr.imp r fun _ _ r => ⟨r.1, let ⟨its, e⟩ := r.2.1; ⟨its, hi _ _ e trivial⟩, r.2.2.monoD hp hi⟩⟩
  | lcT kvs =>
    obtain ⟨ob, l, h, r⟩ := h
    exact ⟨ob, l, e.trans h, Pr.imp r fun _ _ r => ⟨r.1, let ⟨its, e⟩ := r.2.1; ⟨its, hi _ _ e trivial⟩, r.2.2.monoD hp hi⟩⟩
  | set _ => exact h
  | ins _ _ => exact h
theorem ObjR.mono0 {a : Addr} {o : O} (hp : ∀ (l : Nat) (a : Addr), μ[l]? = some a → μ'[l]? = some a) (hi : ∀ a o, H a = some o → Imm o → H' a = some o) (e : H' a = H a) (h : ObjR K μ H a o) : ObjR K μ' H' a o := h.monoD hp (fun a o e i => hi a o e (immD_imm i)) e
theorem StR.out (S : StR K μ H st) {D : Addr} {u : HO} (h : H D = some u) (ni : ¬ Imm u) (n : D ∉ μ) (o : HO) : StR K μ (upd H D o) st := ⟨S.len, S.nd, fun l a x e1 e2 =>
  (S.ob l a x e1 e2).monoD (fun _ _ z => z) (fun a x e i => im_out h ni o a x e (immD_imm i)) (upd_ne fun z => n (z ▸ List.mem_of_getElem? e1))⟩
theorem Le.out (L : Le μ H μ' H') {D : Addr} (h : H D = none) (o : HO) : Le μ H μ' (upd H' D o) :=
  ⟨L.pre, fun a x e n => by rw [upd_ne (ne_of_none e h)]; exact L.kp a x e n, fun a x e i => by rw [upd_ne (ne_of_none e h)]; exact L.im a x e i, L.nw⟩
theorem StR.add (S : StR K μ H st) {D : Addr} (n : D ∉ μ) {o : O} (r : ObjR K (μ ++ [D]) H D o) : StR K (μ ++ [D]) H (st ++ [o]) := by
  have pre : ∀ (l : Nat) (a : Addr), μ[l]? = some a → (μ ++ [D])[l]? = some a := fun l a e => by
    rw [List.getElem?_append_left (List.getElem?_eq_some_iff.mp e).1]
    exact e
  refine ⟨by simp [S.len], ?_, fun l a x e1 e2 => ?_⟩
  · rw [List.nodup_append]
    refine ⟨S.nd, by simp, fun a ha b hb => ?_⟩
    rw [List.mem_singleton.mp hb]
    exact fun z => n (z ▸ ha)
  · by_cases hl : l < μ.length
    · rw [List.getElem?_append_left hl] at e1
      rw [List.getElem?_append_left (by rw [← S.len]; exact hl)] at e2
      exact (S.ob l a x e1 e2).monoD pre (fun _ _ e _ => e) rfl
    · have hl2 : l = μ.length := by
        have := (List.getElem?_eq_some_iff.mp e1).1
        simp at this
        omega
      subst hl2
      rw [List.getElem?_append_right (Nat.le_refl _)] at e1
      rw [S.len, List.getElem?_append_right (Nat.le_refl _)] at e2
      simp at e1 e2
      subst e1 e2
      exact r
theorem Le.add (L : Le μ H μ' H') {D : Addr} (h : H D = none) : Le μ H (μ' ++ [D]) H' :=
  ⟨fun l a e => by have := L.pre l a e; rw [List.getElem?_append_left (List.getElem?_eq_some_iff.mp this).1]; exact this, L.kp, L.im, fun a m n => by
    rcases List.mem_append.mp m with m | m
    · exact L.nw a m n
    · rw [List.mem_singleton.mp m]; exact h⟩
end
end Ev
end

section
set_option Elab.async false
set_option linter.all false
set_option maxRecDepth 100000
set_option maxHeartbeats 1000000
/-! Snd2: plain data as the library's data. -/
namespace Ev
open PySem PySem.Spec L2
mutual
def toP : D → PyData
  | .non => .none
  | .bl b => .bool b
  | .int i => .int i
  | .str s => .str s
  | .tup xs => .tuple (toPL xs)
  | .ref _ => .none
  | .fn _ => .none
  | .rol _ => .none
def toPL : List D → List PyData
  | [] => []
  | x :: xs => toP x :: toPL xs
end
theorem toPL_map : ∀ xs : List D, toPL xs = xs.map toP
  | [] => rfl
  | x :: xs => by rw [toPL, toPL_map xs, List.map_cons]
theorem sEq_eq (a b : Str) : sEq a b = (a == b) := by
  rw [Bool.eq_iff_iff]
  unfold sEq
  simp only [beq_iff_eq]
  constructor
  · intro h
    exact PySem.W.str_of_cps h
  · intro h
    rw [h]
theorem b_and {a b : Bool} (h : (a && b) = true) : a = true ∧ b = true := Bool.and_eq_true_iff.mp h
mutual
theorem pl_plain : ∀ (k : Nat) (d : D), D.pl k d = true → (toP d).plain = true ∧ (toP d).depth ≤ k
  | k, .non, _ => by simp [toP, PyData.plain, PyData.depth]
  | k, .bl _, _ => by simp [toP, PyData.plain, PyData.depth]
  | k, .int _, _ => by simp [toP, PyData.plain, PyData.depth]
  | k, .str _, _ => by simp [toP, PyData.plain, PyData.depth]
  | k, .ref _, h => by simp [D.pl] at h
  | k, .fn _, h => by simp [D.pl] at h
  | k, .rol _, h => by simp [D.pl] at h
  | 0, .tup xs, h => by simp [D.pl] at h
  | k + 1, .tup xs, h => by
    obtain ⟨h1, h2⟩ := plL_plain k xs (by simpa [D.pl] using h)
    rw [toP, PyData.plain, PyData.depth]
    exact ⟨h1, by omega⟩
theorem plL_plain : ∀ (k : Nat) (ds : List D), D.plL k ds = true → PyData.plainAll (toPL ds) = true ∧ PyData.depthAll (toPL ds) ≤ k
  | k, [], _ => by simp [toPL, PyData.plainAll, PyData.depthAll]
  | k, x :: xs, h => by
    obtain ⟨h1, h2⟩ := b_and (show (D.pl k x && D.plL k xs) = true by simpa [D.plL] using h)
    obtain ⟨a1, a2⟩ := pl_plain k x h1
    obtain ⟨b1, b2⟩ := plL_plain k xs h2
    rw [toPL, PyData.plainAll, PyData.depthAll]
    exact ⟨by rw [a1, b1]; rfl, by omega⟩
end
theorem plL_mem {k : Nat} : ∀ {ds : List D} {d : D}, D.plL k ds = true → d ∈ ds → D.pl k d = true
  | [], _, _, h => by cases h
  | x :: xs, d, h, hm => by
    obtain ⟨h1, h2⟩ := b_and (show (D.pl k x && D.plL k xs) = true by simpa [D.plL] using h)
    rcases List.mem_cons.mp hm with rfl | hm
    · exact h1
    · exact plL_mem h2 hm
mutual
theorem eqv_eq : ∀ (k j : Nat) (x y : D), D.pl k x = true → D.pl j y = true → D.eqv x y = PyData.eqv (toP x) (toP y)
  | _, _, .non, y, _, h => by cases y <;> first | (simp [D.pl] at h; done) | simp [D.eqv, toP, PyData.eqv]
  | _, _, .bl a, y, _, h => by cases y <;> first | (simp [D.pl] at h; done) | simp [D.eqv, toP, PyData.eqv]
  | _, _, .int a, y, _, h => by cases y <;> first | (simp [D.pl] at h; done) | simp [D.eqv, toP, PyData.eqv]
  | _, _, .str a, y, _, h => by cases y <;> first | (simp [D.pl] at h; done) | simp [D.eqv, toP, PyData.eqv, sEq_eq]
  | _, _, .ref _, _, h, _ => by simp [D.pl] at h
  | _, _, .fn _, _, h, _ => by simp [D.pl] at h
  | _, _, .rol _, _, h, _ => by simp [D.pl] at h
  | 0, _, .tup xs, _, h, _ => by simp [D.pl] at h
  | k + 1, 0, .tup xs, y, h1, h => by cases y <;> first | (simp [D.pl] at h; done) | simp [D.eqv, toP, PyData.eqv]
  | k + 1, j + 1, .tup xs, y, h1, h => by
    cases y with
    | tup ys =>
      rw [D.eqv, toP, toP, PyData.eqv]
      exact eqvL_eq k j xs ys (by simpa [D.pl] using h1) (by simpa [D.pl] using h)
    | _ => first | (simp [D.pl] at h; done) | simp [D.eqv, toP, PyData.eqv]
theorem eqvL_eq : ∀ (k j : Nat) (xs ys : List D), D.plL k xs = true → D.plL j ys = true → D.eqvL xs ys = PyData.eqvAll (toPL xs) (toPL ys)
  | _, _, [], ys, _, _ => by cases ys <;> simp [D.eqvL, toPL, PyData.eqvAll]
  | _, _, x :: xs, [], _, _ => by simp [D.eqvL, toPL, PyData.eqvAll]
  | k, j, x :: xs, y :: ys, h1, h2 => by
    obtain ⟨a1, a2⟩ := b_and (show (D.pl k x && D.plL k xs) = true by simpa [D.plL] using h1)
    obtain ⟨b1, b2⟩ := b_and (show (D.pl j y && D.plL j ys) = true by simpa [D.plL] using h2)
    rw [D.eqvL, toPL, toPL, PyData.eqvAll, eqv_eq k j x y a1 b1, eqvL_eq k j xs ys a2 b2]
end
theorem anyEq_eq {k j : Nat} {x : D} (hx : D.pl k x = true) : ∀ {ys : List D}, D.plL j ys = true → anyEq x ys = (toPL ys).any fun y => PyData.eqv y (toP x)
  | [], _ => rfl
  | y :: ys, h => by
    obtain ⟨b1, b2⟩ := b_and (show (D.pl j y && D.plL j ys) = true by simpa [D.plL] using h)
    rw [anyEq, toPL, List.any_cons, eqv_eq j k y x b1 hx, anyEq_eq hx b2]
mutual
theorem alike_eq : ∀ (x y : D), D.alike x y = true → PySem.W.alike (toP x) (toP y) = true
  | .non, y, h => by cases y <;> simp [D.alike] at h <;> simp [toP, PySem.W.alike]
  | .bl a, y, h => by cases y <;> simp [D.alike] at h <;> simp [toP, PySem.W.alike]
  | .int a, y, h => by cases y <;> simp [D.alike] at h <;> simp [toP, PySem.W.alike]
  | .str a, y, h => by cases y <;> simp [D.alike] at h <;> simp [toP, PySem.W.alike]
  | .ref _, _, h => by simp [D.alike] at h
  | .fn _, _, h => by simp [D.alike] at h
  | .rol _, _, h => by simp [D.alike] at h
  | .tup xs, y, h => by
    cases y with
    | tup ys =>
      rw [toP, toP, PySem.W.alike]
      exact alikeL_eq xs ys (by simpa [D.alike] using h)
    | _ => simp [D.alike] at h
theorem alikeL_eq : ∀ (xs ys : List D), D.alikeL xs ys = true → PySem.W.alikeAll (toPL xs) (toPL ys) = true
  | [], ys, _ => by cases ys <;> simp [toPL, PySem.W.alikeAll]
  | x :: xs, [], _ => by simp [toPL, PySem.W.alikeAll]
  | x :: xs, y :: ys, h => by
    obtain ⟨a1, a2⟩ := b_and (show (D.alike x y && D.alikeL xs ys) = true by simpa [D.alikeL] using h)
    rw [toPL, toPL, PySem.W.alikeAll, alike_eq x y a1, alikeL_eq xs ys a2]
    rfl
end
theorem lexN_eq : ∀ xs ys : List Nat, lexN xs ys = decide (xs < ys)
  | [], [] => by simp [lexN]
  | [], y :: ys => by simp [lexN]
  | x :: xs, [] => by simp [lexN]
  | x :: xs, y :: ys => by
    rw [lexN, lexN_eq xs ys]
    by_cases h : x = y
    · subst h
      simp [List.cons_lt_cons_iff]
    · have hb : (x == y) = false := by simpa using h
      rw [hb]
      simp only [Bool.false_eq_true, if_false]
      rw [Bool.eq_iff_iff]
      simp [List.cons_lt_cons_iff, h]
mutual
theorem lt_eq : ∀ (k j : Nat) (x y : D) (b : Bool), D.pl k x = true → D.pl j y = true → D.alike x y = true → D.lt x y = some b → PySem.W.dataLt (toP x) (toP y) = b
  | _, _, .non, y, b, _, _, _, h => by cases y <;> simp [D.lt] at h
  | _, _, .bl a, y, b, _, _, al, h => by
    cases y <;> simp [D.alike] at al
    rename_i b0 c
    rw [D.lt] at h
    rw [toP, toP, PySem.W.dataLt_bool, ← Option.some.inj h]
    cases a <;> cases b0 <;> rfl
  | _, _, .int a, y, b, _, _, al, h => by
    cases y <;> simp [D.alike] at al
    rename_i c
    rw [D.lt] at h
    rw [toP, toP, PySem.W.dataLt_int, ← Option.some.inj h]
  | _, _, .str a, y, b, _, _, al, h => by
    cases y <;> simp [D.alike] at al
    rename_i c
    rw [D.lt] at h
    rw [toP, toP, PySem.W.dataLt_str, ← Option.some.inj h, lexN_eq]
  | _, _, .ref _, _, _, _, _, al, _ => by simp [D.alike] at al
  | _, _, .fn _, _, _, _, _, al, _ => by simp [D.alike] at al
  | _, _, .rol _, _, _, _, _, al, _ => by simp [D.alike] at al
  | 0, _, .tup xs, _, _, h, _, _, _ => by simp [D.pl] at h
  | k + 1, j, .tup xs, y, b, hx, hy, al, h => by
    cases y with
    | tup ys =>
      cases j with
      | zero => simp [D.pl] at hy
      | succ j =>
        rw [toP, toP, PySem.W.dataLt_tuple]
        exact ltL_eq k j xs ys b (by simpa [D.pl] using hx) (by simpa [D.pl] using hy) (by simpa [D.alike] using al) (by simpa [D.lt] using h)
    | _ => simp [D.alike] at al
theorem ltL_eq : ∀ (k j : Nat) (xs ys : List D) (b : Bool), D.plL k xs = true → D.plL j ys = true → D.alikeL xs ys = true → D.ltL xs ys = some b →
    PyProof.Rows.lexLt PyProof.Rows.itemOrd (PySem.W.keyToksAll (toPL xs)) (PySem.W.keyToksAll (toPL ys)) = b
  | _, _, [], [], b, _, _, _, h => by
    rw [D.ltL] at h
    rw [← Option.some.inj h]
    decide
  | _, _, [], y :: ys, b, _, _, _, h => by
    rw [D.ltL] at h
    rw [← Option.some.inj h, toPL, toPL, PySem.W.toks_all_cons]
    rw [show PySem.W.keyToksAll [] = [Sum.inl 0] from rfl, PySem.W.lex_atom (by simp)]
    decide
  | _, _, x :: xs, [], b, _, _, _, h => by
    rw [D.ltL] at h
    rw [← Option.some.inj h, toPL, toPL, PySem.W.toks_all_cons]
    rw [show PySem.W.keyToksAll [] = [Sum.inl 0] from rfl, PySem.W.lex_atom (by simp)]
    decide
  | k, j, x :: xs, y :: ys, b, hx, hy, al, h => by
    obtain ⟨a1, a2⟩ := b_and (show (D.pl k x && D.plL k xs) = true by simpa [D.plL] using hx)
    obtain ⟨b1, b2⟩ := b_and (show (D.pl j y && D.plL j ys) = true by simpa [D.plL] using hy)
    obtain ⟨c1, c2⟩ := b_and (show (D.alike x y && D.alikeL xs ys) = true by simpa [D.alikeL] using al)
    have ha := alike_eq x y c1
    have he := eqv_eq k j x y a1 b1
    rw [toPL, toPL]
    rw [D.ltL] at h
    cases e : D.eqv x y with
    | true =>
      rw [e] at h
      rw [PySem.W.dataLt_all_yes ha (by rw [← he, e])]
      exact ltL_eq k j xs ys b a2 b2 c2 (by simpa using h)
    | false =>
      rw [e] at h
      rw [PySem.W.dataLt_all_no ha (by rw [← he, e])]
      exact lt_eq k j x y b a1 b1 c1 (by simpa using h)
end
/-! ### the heap reads so -/
section
variable {X : Cx} {pins : List (Addr × Obj)} {σ : L2.St} {H : Hp} {s : Shared} {μ : List Addr} {st : Sto}
theorem tup_reads {h : Heap} {a : Addr} {its : List Value} (p : PyProof.Rows.IsTup h a its.toArray) {xs : List PyData} {as : List Addr} (r : ReadsAll h its xs as) : Reads h (.ref a) (.tuple xs) as := by
  obtain ⟨o, h1, h2, n, h3⟩ := p
  exact Reads.tuple h1 h2 h3 (by simpa using r)
mutual
theorem rep_reads (I : Inv X pins σ H s) : ∀ (k : Nat) (d : D) (v : V) (u : Value), D.pl k d = true → Rep X.K μ H d v → RelV v u → ∃ as, Reads s.heap u (toP d) as
  | _, .non, v, u, _, r, q => by
    cases (show v = .non from r)
    cases (show u = Value.none from q)
    exact ⟨_, .none⟩
  | _, .bl b, v, u, _, r, q => by
    cases (show v = .bl b from r)
    cases (show u = Value.bool b from q)
    exact ⟨_, .bool b⟩
  | _, .int i, v, u, _, r, q => by
    cases (show v = .int i from r)
    obtain ⟨t, rfl⟩ := q
    exact ⟨_, .int i t⟩
  | _, .str x, v, u, _, r, q => by
    cases (show v = .str x from r)
    obtain ⟨t, rfl⟩ := q
    exact ⟨_, .str x t⟩
  | _, .ref _, _, _, h, _, _ => by simp [D.pl] at h
  | _, .fn _, _, _, h, _, _ => by simp [D.pl] at h
  | _, .rol _, _, _, h, _, _ => by simp [D.pl] at h
  | 0, .tup xs, _, _, h, _, _ => by simp [D.pl] at h
  | k + 1, .tup ds, v, u, h, r, q => by
    obtain ⟨a, vs, ob, rfl, ha, r⟩ := r
    cases (show u = Value.ref a from q)
    obtain ⟨its, rv, p, _⟩ := I.tuple (.inl (.inr ⟨_, ha⟩))
    obtain ⟨as, h2⟩ := repL_reads I k ds vs its (by simpa [D.pl] using h) r rv
    exact ⟨as, tup_reads p h2⟩
theorem repL_reads (I : Inv X pins σ H s) : ∀ (k : Nat) (ds : List D) (vs : List V) (us : List Value), D.plL k ds = true → RepL X.K μ H ds vs → Vals vs us → ∃ as, ReadsAll s.heap us (toPL ds) as
  | _, [], vs, us, _, r, q => by
    cases (show vs = [] from r)
    cases q
    exact ⟨_, .nil⟩
  | k, d :: ds, vs, us, h, r, q => by
    obtain ⟨h1, h2⟩ := b_and (show (D.pl k d && D.plL k ds) = true by simpa [D.plL] using h)
    obtain ⟨v, vr, rfl, r1, r2⟩ := r
    cases q with
    | cons q1 q2 =>
      obtain ⟨as, e1⟩ := rep_reads I k d v _ h1 r1 q1
      obtain ⟨bs, e2⟩ := repL_reads I k ds vr _ h2 r2 q2
      exact ⟨_, .cons e1 e2⟩
end
/-- a list of plain data -/
theorem lst_reads (I : Inv X pins σ H s) {a : Addr} {vs : List V} {ds : List D} {k : Nat} (ha : H a = some (.lst vs)) (h : D.plL k ds = true) (r : RepL X.K μ H ds vs) :
    ∃ as, Reads s.heap (.ref a) (.list (toPL ds)) as ∧ ∃ its : List Value, s.heap.IsList a its.toArray ∧ Vals vs its ∧ ∃ bs, ReadsAll s.heap its (toPL ds) bs := by
  obtain ⟨z, its, n, rv, e⟩ := (show ObjOk X.prog X.w H s.heap a (.lst vs) from I.hok a _ ha)
  obtain ⟨as, e2⟩ := repL_reads I k ds vs its h r rv
  exact ⟨a :: as, Reads.list e rfl rfl (by simpa using e2), its, ⟨_, e, rfl, _, rfl⟩, rv, as, e2⟩
end
end Ev
end

section
set_option Elab.async false
set_option linter.all false
set_option maxRecDepth 100000
set_option maxHeartbeats 2000000
/-! Snd3: the operators. -/
namespace Ev
open PySem PySem.Spec L2
/-- what is wanted behind a step that gives d over st' -/
def Post (K : PySem.W.Frag) (μ : List Addr) (H : Hp) (d : D) (st' : Sto) (Q : VK) : Prop := ∀ μ' v H', Le μ H μ' H' → Rep K μ' H' d v → StR K μ' H' st' → Q v H'
theorem bind_ok {α β : Type} {r : R α} {f : α → Sto → R β} {b : β} {st : Sto} (h : r.bind f = .ok b st) : ∃ a st1, r = .ok a st1 ∧ f a st1 = .ok b st := by
  cases r with
  | no => cases h
  | ok a st1 => exact ⟨a, st1, rfl, h⟩
  | ex x st1 => cases h
section
variable {K : PySem.W.Frag} {μ : List Addr} {H : Hp} {st st' : Sto} {d : D} {Q : VK}
theorem Post.here (S : StR K μ H st) {v : V} (r : Rep K μ H d v) (p : Post K μ H d st Q) : Q v H := p μ v H .refl r S
/-- a new list (a thing of the store) -/
theorem Post.lay (S : StR K μ H st) {o : O} {ho : HO} (ni : ¬ Imm ho) (r : ∀ p, H p = none → ObjR K (μ ++ [p]) (upd H p ho) p o) (p : Post K μ H (.ref st.length) (st ++ [o]) Q) : ∀ q, H q = none → Q (.ref q) (upd H q ho) := fun q hq => by
  refine p (μ ++ [q]) (.ref q) (upd H q ho) (le_lay S hq ho) ?_ (S.lay hq (r q hq))
  refine ⟨q, ?_, rfl⟩
  rw [List.getElem?_append_right (by rw [S.len]; exact Nat.le_refl _), S.len, Nat.sub_self]
  rfl
theorem obj_lst (S : StR K μ H st) {ds : List D} {vs : List V} (r : Paired (Rep K μ H) ds vs) : ∀ p, H p = none → ObjR K (μ ++ [p]) (upd H p (.lst vs)) p (.lst ds) := fun p hp =>
  ⟨vs, upd_same, RepL.iff.mpr (Pr.imp r fun _ _ h => h.mono (le_lay S hp _))⟩
/-- a new tuple -/
theorem Post.tup (S : StR K μ H st) {ds : List D} {vs : List V} {its : List Value} (r : Paired (Rep K μ H) ds vs) (p : Post K μ H (.tup ds) st Q) : ∀ q, H q = none → Q (.ref q) (upd H q (.frz (tupO its) (.tup vs))) := fun q hq =>
  p μ (.ref q) (upd H q (.frz (tupO its) (.tup vs))) (le_new S hq _) ⟨q, vs, its, rfl, upd_same, RepL.iff.mpr (Pr.imp r fun _ _ h => h.mono (le_new S hq _))⟩ (S.new hq _)
/-- a tuple's object is pushed -/
theorem tup_push {X : Cx} {pins : List (Addr × Obj)} {σ : L2.St} {H : Hp} {s : Shared} {vs : List V} {us : List Value} {tk : Nat} (I : Inv X pins σ H s) (r : Vals vs us) (z : vs.length ≤ sizeLine) :
    Inv X pins σ (upd H s.heap.objs.size (.frz (tupO us) (.tup vs))) { s with heap := s.heap.push (tupO us), toks := tk } := by
  have e := Heap.get?_push_size s.heap (o := tupO us) rfl
  exact L2.Inv.laid (t' := tk) I (fun _ _ q => Heap.get?_push_of_some _ q) (Nat.le_refl _) ⟨e, z, us, r, _, e, rfl, 0, rfl⟩
theorem tup_end {X : Cx} {pins : List (Addr × Obj)} {σ : L2.St} {H : Hp} {s : Shared} {μ : List Addr} {st : Sto} {Q : VK} {ds : List D} {vs : List V} {us : List Value} {tk : Nat} (I : Inv X pins σ H s) (S : StR X.K μ H st) (rd : Paired (Rep X.K μ H) ds vs) (r : Vals vs us)
    (z : vs.length ≤ sizeLine) (p : Post X.K μ H (.tup ds) st Q) : EP X pins σ Q (.ref s.heap.objs.size) { s with heap := s.heap.push (tupO us), toks := tk } :=
  ⟨.ref s.heap.objs.size, _, tup_push I r z, rfl, p.tup S rd _ (I.hok.fresh (Nat.le_refl _))⟩
theorem new_ok {o : O} {d : D} (h : new o st = .ok d st') : d = .ref st.length ∧ st' = st ++ [o] := by
  unfold Ev.new at h
  cases h
  exact ⟨rfl, rfl⟩
theorem StR.at_ (S : StR K μ H st) {l : Nat} {a : Addr} {o : O} (h : μ[l]? = some a) (e : sget st l = some o) : ObjR K μ H a o := S.ob l a o h (by rw [← sget_eq]; exact e)
theorem StR.lst (S : StR K μ H st) {l : Nat} {a : Addr} {ds : List D} (h : μ[l]? = some a) (e : sget st l = some (.lst ds)) : ∃ vs, H a = some (.lst vs) ∧ Paired (Rep K μ H) ds vs := by
  have q : ∃ vs, H a = some (.lst vs) ∧ RepL K μ H ds vs := S.at_ h e
  obtain ⟨vs, h1, h2⟩ := q
  exact ⟨vs, h1, RepL.iff.mp h2⟩
theorem Post.int {i : Int} (p : Post K μ H (.int i) st Q) (S : StR K μ H st) : Q (.int i) H := p μ (.int i) H .refl rfl S
theorem Post.str {i : Str} (p : Post K μ H (.str i) st Q) (S : StR K μ H st) : Q (.str i) H := p μ (.str i) H .refl rfl S
theorem Post.bl {i : Bool} (p : Post K μ H (.bl i) st Q) (S : StR K μ H st) : Q (.bl i) H := p μ (.bl i) H .refl rfl S
theorem Post.non (p : Post K μ H .non st Q) (S : StR K μ H st) : Q .non H := p μ .non H .refl rfl S
end
theorem rep_flat {α : Type} (xs : List α) : ∀ k, rep xs k = (List.replicate k xs).flatten
  | 0 => rfl
  | k + 1 => by rw [rep, List.replicate_succ, List.flatten_cons, rep_flat xs k]
def pyB : Bop → Operator
  | .add => .Add
  | .sub => .Sub
  | .mul => .Mult
  | .fdiv => .FloorDiv
  | .mod => .Mod
  | .pow => .Pow
def vBin (K : PySem.W.Frag) (f : D → D → Sto → R D) : R2 := fun x y H Q => ∃ μ dx dy st d st', StR K μ H st ∧ Rep K μ H dx x ∧ Rep K μ H dy y ∧ f dx dy st = .ok d st' ∧ Post K μ H d st' Q
theorem ite_ok {α : Type} {b : Bool} {x : α} {st' : Sto} {r : R α} (h : (if b = true then r else .no) = .ok x st') : b = true ∧ r = .ok x st' := by
  cases b with
  | true => exact ⟨rfl, by simpa using h⟩
  | false => simp at h
section
variable {X : Cx}
theorem op_bin_add : OpR X (binaryOp .Add) (vBin X.K (binop .add)) := by
  intro pins s σ H x y v u Q I rx ry ⟨μ, dx, dy, st, d, st', S, r1, r2, h, p⟩
  cases dx with
  | int i =>
    cases dy with
    | int j =>
      cases (show x = .int i from r1)
      cases (show y = .int j from r2)
      cases (show R.ok (D.int (i + j)) st = .ok d st' from h)
      exact op_add pins s σ H _ _ v u Q I rx ry ⟨i, j, rfl, rfl, p.int S⟩
    | _ => cases h
  | str a =>
    cases dy with
    | str b =>
      cases (show x = .str a from r1)
      cases (show y = .str b from r2)
      obtain ⟨hb, e⟩ := ite_ok (show (if small (a.length + b.length) = true then R.ok (D.str (a ++ b)) st else .no) = .ok d st' from h)
      cases e
      exact op_add_str pins s σ H _ _ v u Q I rx ry ⟨a, b, rfl, rfl, small_iff hb, p.str S⟩
    | _ => cases h
  | tup xs =>
    cases dy with
    | tup ys =>
      obtain ⟨a, vs, o1, rfl, ha, q1⟩ := r1
      obtain ⟨b, ws, o2, rfl, hb, q2⟩ := r2
      obtain ⟨hz, e⟩ := ite_ok (show (if small (xs.length + ys.length) = true then R.ok (D.tup (xs ++ ys)) st else .no) = .ok d st' from h)
      cases e
      have g1 := RepL.iff.mp q1
      have g2 := RepL.iff.mp q2
      have l1 := g1.length
      have l2 := g2.length
      have hz := small_iff hz
      cases rx
      cases ry
      obtain ⟨its, w1, t1, _⟩ := I.tuple (.inl (.inr ⟨_, ha⟩))
      obtain ⟨its2, w2, t2, _⟩ := I.tuple (.inl (.inr ⟨_, hb⟩))
      have m1 := w1.length
      have m2 := w2.length
      by_cases hv : its = []
      · subst hv
        cases w1
        cases g1
        exact cat_tup0 t1 t2 ⟨.ref b, H, I, rfl, p μ (.ref b) H .refl ⟨b, ws, o2, rfl, hb, q2⟩ S⟩
      · refine HT.cat_tup t1 t2 hv (fun e => ?_) (fun e => ?_) (by omega)
        · subst e
          cases w2
          cases g2
          exact ⟨.ref a, H, I, rfl, p μ (.ref a) H .refl ⟨a, vs, o1, rfl, ha, by rw [List.append_nil]; exact q1⟩ S⟩
        · exact tup_end (tk := s.toks) I S (Pr.app g1 g2) (w1.append w2) (by rw [List.length_append]; omega) p
    | _ => cases h
  | ref l =>
    cases dy with
    | ref m =>
      obtain ⟨a, ha, rfl⟩ := r1
      obtain ⟨b, hb, rfl⟩ := r2
      simp only [binop] at h
      cases e1 : sget st l with
      | none => rw [e1] at h; cases h
      | some o =>
        rw [e1] at h
        cases o with
        | lst xs =>
          cases e2 : sget st m with
          | none => rw [e2] at h; cases h
          | some o =>
            rw [e2] at h
            cases o with
            | lst ys =>
              obtain ⟨vs, h1, q1⟩ := S.lst ha e1
              obtain ⟨ws, h2, q2⟩ := S.lst hb e2
              obtain ⟨hz, e⟩ := ite_ok h
              obtain ⟨rfl, rfl⟩ := new_ok e
              have l1 := q1.length
              have l2 := q2.length
              exact op_cat pins s σ H _ _ v u Q I rx ry ⟨a, b, vs, ws, rfl, rfl, h1, h2, by rw [← l1, ← l2]; exact small_iff hz, p.lay S (fun z => z) (obj_lst S (Pr.app q1 q2))⟩
            | _ => cases h
        | _ => cases h
    | _ => cases h
  | _ => cases h
theorem op_bin_sub : OpR X (binaryOp .Sub) (vBin X.K (binop .sub)) := by
  intro pins s σ H x y v u Q I rx ry ⟨μ, dx, dy, st, d, st', S, r1, r2, h, p⟩
  cases dx with
  | int i =>
    cases dy with
    | int j =>
      cases (show x = .int i from r1)
      cases (show y = .int j from r2)
      cases (show R.ok (D.int (i - j)) st = .ok d st' from h)
      exact op_sub pins s σ H _ _ v u Q I rx ry ⟨i, j, rfl, rfl, p.int S⟩
    | _ => cases h
  | _ => cases h
theorem op_bin_fdiv : OpR X (binaryOp .FloorDiv) (vBin X.K (binop .fdiv)) := by
  intro pins s σ H x y v u Q I rx ry ⟨μ, dx, dy, st, d, st', S, r1, r2, h, p⟩
  cases dx with
  | int i =>
    cases dy with
    | int j =>
      cases (show x = .int i from r1)
      cases (show y = .int j from r2)
      obtain ⟨hb, e⟩ := ite_ok (show (if (j != 0 && decide (j.natAbs < 1073741824)) = true then R.ok (D.int (i.fdiv j)) st else .no) = .ok d st' from h)
      cases e
      obtain ⟨b1, b2⟩ := b_and hb
      exact op_fdivN pins s σ H _ _ v u Q I rx ry ⟨i, j, rfl, rfl, ⟨by simpa using b1, by simpa using b2⟩, p.int S⟩
    | _ => cases h
  | _ => cases h
theorem op_bin_mod : OpR X (binaryOp .Mod) (vBin X.K (binop .mod)) := by
  intro pins s σ H x y v u Q I rx ry ⟨μ, dx, dy, st, d, st', S, r1, r2, h, p⟩
  cases dx with
  | int i =>
    cases dy with
    | int j =>
      cases (show x = .int i from r1)
      cases (show y = .int j from r2)
      obtain ⟨hb, e⟩ := ite_ok (show (if (j != 0) = true then R.ok (D.int (i.fmod j)) st else .no) = .ok d st' from h)
      cases e
      exact op_modN pins s σ H _ _ v u Q I rx ry ⟨i, j, rfl, rfl, by simpa using hb, p.int S⟩
    | _ => cases h
  | _ => cases h
theorem op_bin_pow : OpR X (binaryOp .Pow) (vBin X.K (binop .pow)) := by
  intro pins s σ H x y v u Q I rx ry ⟨μ, dx, dy, st, d, st', S, r1, r2, h, p⟩
  cases dx with
  | int i =>
    cases dy with
    | int j =>
      cases (show x = .int i from r1)
      cases (show y = .int j from r2)
      obtain ⟨hb, e⟩ := ite_ok (show (if (decide (0 ≤ j) && decide (j ≤ 1000000) && decide (i.natAbs < 18446744073709551616)) = true then R.ok (D.int (i ^ j.toNat)) st else .no) = .ok d st' from h)
      cases e
      obtain ⟨b12, b3⟩ := b_and hb
      obtain ⟨b1, b2⟩ := b_and b12
      exact op_pow pins s σ H _ _ v u Q I rx ry ⟨i, j, rfl, rfl, ⟨by simpa using b1, by simpa using b2, by simpa using b3⟩, p.int S⟩
    | _ => cases h
  | _ => cases h
theorem op_bin_mul : OpR X (binaryOp .Mult) (vBin X.K (binop .mul)) := by
  intro pins s σ H x y v u Q I rx ry ⟨μ, dx, dy, st, d, st', S, r1, r2, h, p⟩
  cases dx with
  | int i =>
    cases dy with
    | int j =>
      cases (show x = .int i from r1)
      cases (show y = .int j from r2)
      obtain ⟨hb, e⟩ := ite_ok (show (if mulOk i j = true then R.ok (D.int (i * j)) st else .no) = .ok d st' from h)
      cases e
      refine op_mul pins s σ H _ _ v u Q I rx ry ⟨i, j, rfl, rfl, ?_, p.int S⟩
      simp only [mulOk, Bool.or_eq_true, Bool.and_eq_true, decide_eq_true_eq] at hb
      exact hb.imp (fun h => ⟨by omega, by omega⟩) fun h => ⟨by omega, by omega⟩
    | _ => cases h
  | ref l =>
    cases dy with
    | int j =>
      obtain ⟨a, ha, rfl⟩ := r1
      cases (show y = .int j from r2)
      simp only [binop] at h
      cases e1 : sget st l with
      | none => rw [e1] at h; cases h
      | some o =>
        rw [e1] at h
        cases o with
        | lst xs =>
          obtain ⟨vs, h1, q1⟩ := S.lst ha e1
          obtain ⟨hb, e⟩ := ite_ok h
          obtain ⟨rfl, rfl⟩ := new_ok e
          have l1 := q1.length
          simp only [Bool.and_eq_true, decide_eq_true_eq] at hb
          obtain ⟨⟨b1, b2⟩, b3⟩ := hb
          refine op_rep pins s σ H _ _ v u Q I rx ry ⟨a, j, vs, rfl, rfl, h1, by omega, by omega, by rw [← l1]; exact small_iff b1, ?_⟩
          rw [← rep_flat]
          exact p.lay S (fun z => z) (obj_lst S (Pr.rep q1 j.toNat))
        | _ => cases h
    | _ => cases h
  | _ => cases h
theorem op_bin (o : Bop) : OpR X (binaryOp (pyB o)) (vBin X.K (binop o)) := by
  cases o with
  | add => exact op_bin_add
  | sub => exact op_bin_sub
  | mul => exact op_bin_mul
  | fdiv => exact op_bin_fdiv
  | mod => exact op_bin_mod
  | pow => exact op_bin_pow
end
end Ev
end

section
set_option Elab.async false
set_option linter.all false
set_option maxRecDepth 100000
set_option maxHeartbeats 2000000
/-! Snd4: comparisons. -/
namespace Ev
open PySem PySem.Spec L2
def pyC : Cop → CmpOp
  | .eq => .Eq
  | .ne => .NotEq
  | .lt => .Lt
  | .le => .LtE
  | .gt => .Gt
  | .ge => .GtE
  | .isin => .In
  | .notin => .NotIn
  | .is_ => .Is
  | .isnot => .IsNot
def vCmp (K : PySem.W.Frag) (f : D → D → Sto → Option Bool) : R2 := fun x y H Q => ∃ μ dx dy st b, StR K μ H st ∧ Rep K μ H dx x ∧ Rep K μ H dy y ∧ f dx dy st = some b ∧ Post K μ H (.bl b) st Q
theorem ifO {α : Type} {b : Bool} {x : α} {r : Option α} (h : (if b = true then r else none) = some x) : b = true ∧ r = some x := by
  cases b with
  | true => exact ⟨rfl, by simpa using h⟩
  | false => simp at h
theorem notO {b : Bool} {r : Option Bool} (h : (match r with | some b => some (!b) | none => none) = some b) : ∃ c, r = some c ∧ b = !c := by
  cases r with
  | none => cases h
  | some c => exact ⟨c, rfl, (Option.some.inj h).symm⟩
section
variable {X : Cx} {pins : List (Addr × Obj)} {σ : L2.St} {H : Hp} {s : Shared} {μ : List Addr} {st : Sto}
/-- two things that == tells by their data -/
theorem eq_reads (I : Inv X pins σ H s) (S : StR X.K μ H st) {dx dy : D} {x y : V} {v u : Value} {b : Bool} (r1 : Rep X.K μ H dx x) (r2 : Rep X.K μ H dy y) (q1 : RelV x v) (q2 : RelV y u) (h : eqR st dx dy = some b) :
    ∃ (da db : PyData) (as bs : List Addr), Reads s.heap v da as ∧ Reads s.heap u db bs ∧ da.plain = true ∧ db.plain = true ∧ min da.depth db.depth ≤ 100 ∧ PyData.eqv da db = b := by
  have main : ∀ {dx dy : D} {x y : V} {v u : Value}, Rep X.K μ H dx x → Rep X.K μ H dy y → RelV x v → RelV y u → (if (D.plain dx && D.plain dy) = true then some (D.eqv dx dy) else none) = some b →
      ∃ (da db : PyData) (as bs : List Addr), Reads s.heap v da as ∧ Reads s.heap u db bs ∧ da.plain = true ∧ db.plain = true ∧ min da.depth db.depth ≤ 100 ∧ PyData.eqv da db = b := by
    intro dx dy x y v u r1 r2 q1 q2 h
    obtain ⟨hp, e⟩ := ifO h
    obtain ⟨p1, p2⟩ := b_and hp
    obtain ⟨as, e1⟩ := rep_reads I 60 dx x v p1 r1 q1
    obtain ⟨bs, e2⟩ := rep_reads I 60 dy y u p2 r2 q2
    obtain ⟨a1, a2⟩ := pl_plain 60 dx p1
    obtain ⟨b1, b2⟩ := pl_plain 60 dy p2
    refine ⟨_, _, as, bs, e1, e2, a1, b1, by omega, ?_⟩
    rw [← eqv_eq 60 60 dx dy p1 p2]
    exact Option.some.inj e
  cases dx with
  | ref l =>
    cases dy with
    | ref m =>
      obtain ⟨a, ha, rfl⟩ := r1
      obtain ⟨b', hb, rfl⟩ := r2
      simp only [eqR] at h
      cases e1 : sget st l with
      | none => rw [e1] at h; cases h
      | some o =>
        rw [e1] at h
        cases o with
        | lst xs =>
          cases e2 : sget st m with
          | none => rw [e2] at h; cases h
          | some o =>
            rw [e2] at h
            cases o with
            | lst ys =>
              obtain ⟨vs, h1, q3⟩ := S.lst ha e1
              obtain ⟨ws, h2, q4⟩ := S.lst hb e2
              obtain ⟨hp, e⟩ := ifO h
              obtain ⟨p1, p2⟩ := b_and hp
              cases (show v = Value.ref a from q1)
              cases (show u = Value.ref b' from q2)
              obtain ⟨as, e3, _⟩ := lst_reads I h1 p1 (RepL.iff.mpr q3)
              obtain ⟨bs, e4, _⟩ := lst_reads I h2 p2 (RepL.iff.mpr q4)
              obtain ⟨a1, a2⟩ := plL_plain 60 xs p1
              obtain ⟨b1, b2⟩ := plL_plain 60 ys p2
              refine ⟨_, _, as, bs, e3, e4, by rw [PyData.plain]; exact a1, by rw [PyData.plain]; exact b1, by rw [PyData.depth, PyData.depth]; omega, ?_⟩
              rw [PyData.eqv, ← eqvL_eq 60 60 xs ys p1 p2]
              exact Option.some.inj e
            | _ => cases h
        | _ => cases h
    | _ => cases h
  | _ => exact main r1 r2 q1 q2 h
theorem cmp_reads (I : Inv X pins σ H s) {dx dy : D} {x y : V} {v u : Value} (r1 : Rep X.K μ H dx x) (r2 : Rep X.K μ H dy y) (q1 : RelV x v) (q2 : RelV y u) (h : cmpOk dx dy = true) :
    ∃ (as bs : List Addr), Reads s.heap v (toP dx) as ∧ Reads s.heap u (toP dy) bs ∧ PySem.W.alike (toP dx) (toP dy) = true ∧ toP dx ≠ .none ∧ min (toP dx).depth (toP dy).depth ≤ 100 ∧
      (∀ b, D.lt dx dy = some b → PySem.W.dataLt (toP dx) (toP dy) = b) ∧ ∀ b, D.lt dy dx = some b → PySem.W.dataLt (toP dy) (toP dx) = b := by
  unfold cmpOk at h
  obtain ⟨h, n⟩ := b_and h
  obtain ⟨h, a2⟩ := b_and h
  obtain ⟨h, a1⟩ := b_and h
  obtain ⟨p1, p2⟩ := b_and h
  obtain ⟨as, e1⟩ := rep_reads I 60 dx x v p1 r1 q1
  obtain ⟨bs, e2⟩ := rep_reads I 60 dy y u p2 r2 q2
  obtain ⟨c1, c2⟩ := pl_plain 60 dx p1
  obtain ⟨d1, d2⟩ := pl_plain 60 dy p2
  refine ⟨as, bs, e1, e2, alike_eq _ _ a1, ?_, by omega, fun b hb => lt_eq 60 60 dx dy b p1 p2 a1 hb, fun b hb => lt_eq 60 60 dy dx b p2 p1 a2 hb⟩
  intro z
  cases dx <;> first | (simp [D.isNon] at n; done) | (simp [D.plain, D.pl] at p1; done) | (simp [toP] at z; done)
end
section
variable {X : Cx}
theorem op_cmp_eq (hu : X.A.units + 200 < cLine) : OpR X (compareOp .Eq) (vCmp X.K (cmpop .eq)) := by
  intro pins s σ H x y v u Q I rx ry ⟨μ, dx, dy, st, b, S, r1, r2, h, q⟩
  obtain ⟨da, db, as, bs, e1, e2, p1, p2, hd, e⟩ := eq_reads I S r1 r2 rx ry (show eqR st dx dy = some b from h)
  exact PySem.SeqAt.eq_plain e1 e2 p1 p2 (by omega) ⟨.bl b, H, I, by rw [e]; rfl, q.bl S⟩
theorem op_cmp_ne (hu : X.A.units + 200 < cLine) : OpR X (compareOp .NotEq) (vCmp X.K (cmpop .ne)) := by
  intro pins s σ H x y v u Q I rx ry ⟨μ, dx, dy, st, b, S, r1, r2, h, q⟩
  obtain ⟨c, hc, rfl⟩ := notO (show (match eqR st dx dy with | some b => some (!b) | none => none) = some b from h)
  obtain ⟨da, db, as, bs, e1, e2, p1, p2, hd, e⟩ := eq_reads I S r1 r2 rx ry hc
  exact PySem.SeqAt.ne_plain e1 e2 p1 p2 (by omega) ⟨.bl (!c), H, I, by rw [e]; rfl, q.bl S⟩
theorem op_cmp_lt (hu : X.A.units + 200 < cLine) : OpR X (compareOp .Lt) (vCmp X.K (cmpop .lt)) := by
  intro pins s σ H x y v u Q I rx ry ⟨μ, dx, dy, st, b, S, r1, r2, h, q⟩
  obtain ⟨hk, e⟩ := ifO (show (if cmpOk dx dy = true then D.lt dx dy else none) = some b from h)
  obtain ⟨as, bs, e1, e2, al, nn, hd, l1, l2⟩ := cmp_reads I r1 r2 rx ry hk
  exact PySem.W.lt_data e1 e2 al nn (by omega) ⟨.bl b, H, I, by rw [l1 b e]; rfl, q.bl S⟩
theorem op_cmp_gt (hu : X.A.units + 200 < cLine) : OpR X (compareOp .Gt) (vCmp X.K (cmpop .gt)) := by
  intro pins s σ H x y v u Q I rx ry ⟨μ, dx, dy, st, b, S, r1, r2, h, q⟩
  obtain ⟨hk, e⟩ := ifO (show (if cmpOk dx dy = true then D.lt dy dx else none) = some b from h)
  obtain ⟨as, bs, e1, e2, al, nn, hd, l1, l2⟩ := cmp_reads I r1 r2 rx ry hk
  exact PySem.W.gt_data e1 e2 al nn (by omega) ⟨.bl b, H, I, by rw [l2 b e]; rfl, q.bl S⟩
theorem op_cmp_le (hu : X.A.units + 200 < cLine) : OpR X (compareOp .LtE) (vCmp X.K (cmpop .le)) := by
  intro pins s σ H x y v u Q I rx ry ⟨μ, dx, dy, st, b, S, r1, r2, h, q⟩
  obtain ⟨c, hc, rfl⟩ := notO (show (match gtR dx dy with | some b => some (!b) | none => none) = some b from h)
  obtain ⟨hk, e⟩ := ifO (show (if cmpOk dx dy = true then D.lt dy dx else none) = some c from hc)
  obtain ⟨as, bs, e1, e2, al, nn, hd, l1, l2⟩ := cmp_reads I r1 r2 rx ry hk
  exact PySem.W.le_data e1 e2 al nn (by omega) ⟨.bl (!c), H, I, by rw [l2 c e]; rfl, q.bl S⟩
theorem op_cmp_ge (hu : X.A.units + 200 < cLine) : OpR X (compareOp .GtE) (vCmp X.K (cmpop .ge)) := by
  intro pins s σ H x y v u Q I rx ry ⟨μ, dx, dy, st, b, S, r1, r2, h, q⟩
  obtain ⟨c, hc, rfl⟩ := notO (show (match ltR dx dy with | some b => some (!b) | none => none) = some b from h)
  obtain ⟨hk, e⟩ := ifO (show (if cmpOk dx dy = true then D.lt dx dy else none) = some c from hc)
  obtain ⟨as, bs, e1, e2, al, nn, hd, l1, l2⟩ := cmp_reads I r1 r2 rx ry hk
  exact PySem.W.ge_data e1 e2 al nn (by omega) ⟨.bl (!c), H, I, by rw [l1 c e]; rfl, q.bl S⟩
theorem is_rel {dx : D} {x : V} {v : Value} {μ : List Addr} {H : Hp} (r : Rep X.K μ H dx x) (q : RelV x v) {y : D} {b : Bool} (h : isR dx y = some b) :
    ∃ u, (∀ z, Rep X.K μ H y z → ∀ w, RelV z w → w = u) ∧ plainIs v u = true ∧ (v == u) = b := by
  cases y with
  | non =>
    refine ⟨.none, fun z hz w hw => by cases (show z = .non from hz); exact hw, ?_⟩
    have e := Option.some.inj (show some (match (generalizing := false) dx with | .non => true | _ => false) = some b from h)
    cases dx with
    | non => cases (show x = .non from r); cases (show v = Value.none from q); exact ⟨rfl, e⟩
    | bl c => cases (show x = .bl c from r); cases (show v = Value.bool c from q); exact ⟨rfl, e⟩
    | int c => cases (show x = .int c from r); obtain ⟨t, rfl⟩ := q; exact ⟨rfl, e⟩
    | str c => cases (show x = .str c from r); obtain ⟨t, rfl⟩ := q; exact ⟨rfl, e⟩
    | tup c => obtain ⟨a, vs, _, rfl, _⟩ := r; cases (show v = Value.ref a from q); exact ⟨rfl, e⟩
    | ref c => obtain ⟨a, _, rfl⟩ := r; cases (show v = Value.ref a from q); exact ⟨rfl, e⟩
    | fn c => exact r.elim
    | rol c => obtain ⟨a, rfl, _⟩ := r; cases (show v = Value.ref a from q); exact ⟨rfl, e⟩
  | bl c' =>
    refine ⟨.bool c', fun z hz w hw => by cases (show z = .bl c' from hz); exact hw, ?_⟩
    have e := Option.some.inj (show some (match (generalizing := false) dx with | .bl c => c == c' | _ => false) = some b from h)
    cases dx with
    | non => cases (show x = .non from r); cases (show v = Value.none from q); exact ⟨rfl, e⟩
    | bl c =>
      cases (show x = .bl c from r)
      cases (show v = Value.bool c from q)
      refine ⟨rfl, ?_⟩
      rw [← e]
      cases c <;> cases c' <;> rfl
    | int c => cases (show x = .int c from r); obtain ⟨t, rfl⟩ := q; exact ⟨rfl, e⟩
    | str c => cases (show x = .str c from r); obtain ⟨t, rfl⟩ := q; exact ⟨rfl, e⟩
    | tup c => obtain ⟨a, vs, _, rfl, _⟩ := r; cases (show v = Value.ref a from q); exact ⟨rfl, e⟩
    | ref c => obtain ⟨a, _, rfl⟩ := r; cases (show v = Value.ref a from q); exact ⟨rfl, e⟩
    | fn c => exact r.elim
    | rol c => obtain ⟨a, rfl, _⟩ := r; cases (show v = Value.ref a from q); exact ⟨rfl, e⟩
  | _ => cases h
theorem op_cmp_is : OpR X (compareOp .Is) (vCmp X.K (cmpop .is_)) := by
  intro pins s σ H x y v u Q I rx ry ⟨μ, dx, dy, st, b, S, r1, r2, h, q⟩
  obtain ⟨w, hw, hp, e⟩ := is_rel r1 rx (show isR dx dy = some b from h)
  cases hw y r2 u ry
  exact wpAny_is_plain hp ⟨.bl b, H, I, by rw [e]; rfl, q.bl S⟩
theorem op_cmp_isnot : OpR X (compareOp .IsNot) (vCmp X.K (cmpop .isnot)) := by
  intro pins s σ H x y v u Q I rx ry ⟨μ, dx, dy, st, b, S, r1, r2, h, q⟩
  obtain ⟨c, hc, rfl⟩ := notO (show (match isR dx dy with | some b => some (!b) | none => none) = some b from h)
  obtain ⟨w, hw, hp, e⟩ := is_rel r1 rx hc
  cases hw y r2 u ry
  exact wpAny_isNot_plain hp ⟨.bl (!c), H, I, by rw [e]; rfl, q.bl S⟩
end
/-! ### keys -/
theorem kD_inj {k j : Key} (h : kD k = kD j) : k = j := by
  cases k <;> cases j <;> simp [kD] at h <;> simp [h]
theorem eqv_kD (k j : Key) : D.eqv (kD k) (kD j) = decide (k = j) := by
  cases k with
  | inl a =>
    cases j with
    | inl b => rw [L2.key_ll]; rfl
    | inr b => simp [kD, D.eqv]
  | inr a =>
    cases j with
    | inl b => simp [kD, D.eqv]
    | inr b => simp [kD, D.eqv, sEq_eq, Bool.beq_eq_decide_eq]
theorem simple_kD {d : D} (h : D.simple d = true) : ∃ k, d = kD k := by
  cases d with
  | int i => exact ⟨.inl i, rfl⟩
  | str s => exact ⟨.inr s, rfl⟩
  | _ => cases h
theorem isInts_ok {d : D} (h : D.isInts d = true) : ∃ ks : List Int, d = .tup (ks.map D.int) := by
  cases d with
  | tup xs =>
    have h : xs.all D.isInt = true := h
    have all : ∀ xs : List D, xs.all D.isInt = true → ∃ ks : List Int, xs = ks.map D.int := by
      intro xs
      induction xs with
      | nil => exact fun _ => ⟨[], rfl⟩
      | cons x xs ih =>
        intro h
        rw [List.all_cons] at h
        obtain ⟨h1, h2⟩ := b_and h
        obtain ⟨ks, rfl⟩ := ih h2
        cases x with
        | int i => exact ⟨i :: ks, rfl⟩
        | _ => cases h1
    obtain ⟨ks, rfl⟩ := all xs h
    exact ⟨ks, rfl⟩
  | _ => cases h
theorem eqv_intsL : ∀ a b : List Int, D.eqvL (a.map D.int) (b.map D.int) = decide (a = b)
  | [], [] => rfl
  | [], _ :: _ => rfl
  | _ :: _, [] => rfl
  | x :: a, y :: b => by
    show (D.eqv (.int x) (.int y) && D.eqvL (a.map D.int) (b.map D.int)) = _
    rw [eqv_intsL a b]
    show ((x == y) && _) = _
    by_cases h : x = y <;> by_cases g : a = b <;> simp [h, g]
theorem eqv_ints (a b : List Int) : D.eqv (.tup (a.map D.int)) (.tup (b.map D.int)) = decide (a = b) := eqv_intsL a b
section
variable {K : PySem.W.Frag} {μ : List Addr} {H : Hp} {st : Sto}
theorem rep_kD {k : Key} {v : V} (h : Rep K μ H (kD k) v) : v = kV k := by cases k <;> exact h
theorem rep_kD' {k : Key} : Rep K μ H (kD k) (kV k) := by cases k <;> rfl
/-- what a key finds -/
theorem kv_get {k : Key} : ∀ {kvs : List (D × D)} {l : List (Key × V)}, KVR K μ H kvs l → (∀ d, kvGet (kD k) kvs = some d → ∃ v, valV l k = some v ∧ Rep K μ H d v) ∧ (kvGet (kD k) kvs = none → valV l k = none)
  | _, _, .nil => ⟨fun d h => (by cases h), fun _ => rfl⟩
  | p :: kvs, q :: l, .cons r t => by
    obtain ⟨r1, r2⟩ := r
    have ih := kv_get (k := k) t
    have e : kvGet (kD k) (p :: kvs) = if D.eqv p.1 (kD k) = true then some p.2 else kvGet (kD k) kvs := rfl
    rw [r1, eqv_kD] at e
    by_cases h : q.1 = k
    · rw [e, decide_eq_true h, if_pos rfl, L2.valV_pos h]
      exact ⟨fun d hd => ⟨q.2, rfl, by rw [← Option.some.inj hd]; exact r2⟩, fun h => by cases h⟩
    · rw [e, decide_eq_false h, if_neg (by decide), L2.valV_neg h]
      exact ih
theorem rep_intsL : ∀ {ks : List Int} {vs : List V}, RepL K μ H (ks.map D.int) vs → vs = ks.map V.int
  | [], vs, h => h
  | k :: ks, vs, h => by
    obtain ⟨v, r, rfl, h1, h2⟩ := h
    cases (show v = .int k from h1)
    rw [rep_intsL h2]
    rfl
theorem rep_ints {ks : List Int} {v : V} (h : Rep K μ H (.tup (ks.map D.int)) v) : ∃ b its, v = .ref b ∧ H b = some (.frz (tupO its) (.tup (ks.map V.int))) := by
  obtain ⟨a, vs, its, e, ha, r⟩ := h
  rw [rep_intsL r] at ha
  exact ⟨a, its, e, ha⟩
/-- what a key of whole numbers finds -/
theorem kvt_get {k : List Int} : ∀ {kvs : List (D × D)} {l : TX}, KVT K μ H kvs l → (∀ d, kvGet (.tup (k.map D.int)) kvs = some d → ∃ v, valT l k = some v ∧ Rep K μ H d v) ∧ (kvGet (.tup (k.map D.int)) kvs = none → valT l k = none)
  | _, _, .nil => ⟨fun d h => (by cases h), fun _ => rfl⟩
  | p :: kvs, q :: l, .cons r t => by
    obtain ⟨r1, r3, r2⟩ := r
    have ih := kvt_get (k := k) t
    have e : kvGet (.tup (k.map D.int)) (p :: kvs) = if D.eqv p.1 (.tup (k.map D.int)) = true then some p.2 else kvGet (.tup (k.map D.int)) kvs := rfl
    rw [r1, eqv_ints] at e
    by_cases h : q.1 = k
    · have b2 : valT (q :: l) k = some q.2.2 := by simp [valT, List.find?_cons, h]
      rw [e, decide_eq_true h, if_pos rfl, b2]
      exact ⟨fun d hd => ⟨q.2.2, rfl, by rw [← Option.some.inj hd]; exact r2⟩, fun h => by cases h⟩
    · have b2 : valT (q :: l) k = valT l k := by simp [valT, List.find?_cons, h]
      rw [e, decide_eq_false h, if_neg (by decide), b2]
      exact ih
theorem KVT.keys : ∀ {kvs : List (D × D)} {l : TX}, KVT K μ H kvs l → TKeys H l
  | _, _, .nil => fun x hx => nomatch hx
  | p :: kvs, q :: l, .cons r t => fun x hx => by
    rcases List.mem_cons.mp hx with e | hx
    · subst e
      obtain ⟨its, h⟩ := r.2.1
      exact .inr ⟨_, h⟩
    · exact KVT.keys t x hx
/-- a dict that is read -/
def DctR (K : PySem.W.Frag) (μ : List Addr) (H : Hp) (a : Addr) (kvs : List (D × D)) : Prop := ∃ l, Rd H a (.dK l) ∧ KVR K μ H kvs l
theorem StR.dct (S : StR K μ H st) {l : Nat} {a : Addr} {kvs : List (D × D)} (h : μ[l]? = some a) (e : sgetR st l = some (.dct kvs)) : DctR K μ H a kvs := by
  unfold sgetR at e
  split at e
  · rename_i kvs' e1
    have q : ∃ ob l, H a = some (.frz ob (.dK l)) ∧ KVR K μ H kvs' l := S.at_ h e1
    obtain ⟨ob, l, h1, h2⟩ := q
    have e3 : kvs' = kvs := O.dct.inj (Option.some.inj e)
    exact ⟨l, .inr ⟨ob, h1⟩, e3 ▸ h2⟩
  · cases e
  · have q : ∃ l, H a = some (.dK l) ∧ KVR K μ H kvs l := S.at_ h e
    obtain ⟨l, h1, h2⟩ := q
    exact ⟨l, .inl h1, h2⟩
/-- a dict of tuple keys that is read -/
def DctT (K : PySem.W.Frag) (μ : List Addr) (H : Hp) (a : Addr) (kvs : List (D × D)) : Prop := ∃ l, Rd H a (.ext (TDp a l)) ∧ KVT K μ H kvs l
theorem StR.dctT (S : StR K μ H st) {l : Nat} {a : Addr} {kvs : List (D × D)} (h : μ[l]? = some a) (e : sgetR st l = some (.dcT kvs)) : DctT K μ H a kvs := by
  unfold sgetR at e
  split at e
  · cases e
  · rename_i kvs' e1
    have q : ∃ ob l, H a = some (.frz ob (.ext (TDp a l))) ∧ KVT K μ H kvs' l := S.at_ h e1
    obtain ⟨ob, l, h1, h2⟩ := q
    have e3 : kvs' = kvs := O.dcT.inj (Option.some.inj e)
    exact ⟨l, .inr ⟨ob, h1⟩, e3 ▸ h2⟩
  · have q : ∃ l, H a = some (.ext (TDp a l)) ∧ KVT K μ H kvs l := S.at_ h e
    obtain ⟨l, h1, h2⟩ := q
    exact ⟨l, .inl h1, h2⟩
theorem sgetR_lst {l : Nat} {xs : List D} (e : sgetR st l = some (.lst xs)) : sget st l = some (.lst xs) := by
  unfold sgetR at e
  split at e
  · cases e
  · cases e
  · exact e
/-- asked for a key: what is there, by the hand layer's word -/
theorem dct_get {a : Addr} {kvs : List (D × D)} {k : D} {y : V} (R : DctR K μ H a kvs) (hk : D.simple k = true) (r : Rep K μ H k y) :
    ∃ o, DGet H a y o ∧ (∀ d, kvGet k kvs = some d → ∃ v, o = some v ∧ Rep K μ H d v) ∧ (kvGet k kvs = none → o = none) := by
  obtain ⟨k, rfl⟩ := simple_kD hk
  obtain ⟨l, h1, h2⟩ := R
  obtain ⟨g1, g2⟩ := kv_get (k := k) h2
  exact ⟨valV l k, .inl ⟨l, k, h1, rep_kD r, rfl⟩, fun d hd => by obtain ⟨v, e1, e2⟩ := g1 d hd; exact ⟨v, e1, e2⟩, g2⟩
/-- the same for tuple keys -/
theorem dcT_get {a : Addr} {kvs : List (D × D)} {k : D} {y : V} (R : DctT K μ H a kvs) (hk : D.isInts k = true) (r : Rep K μ H k y) :
    ∃ l ks b, Rd H a (.ext (TDp a l)) ∧ TKeys H l ∧ y = .ref b ∧ Rd H b (.tup (ks.map V.int)) ∧ (∀ d, kvGet k kvs = some d → ∃ v, valT l ks = some v ∧ Rep K μ H d v) ∧ (kvGet k kvs = none → valT l ks = none) := by
  obtain ⟨ks, rfl⟩ := isInts_ok hk
  obtain ⟨l, h1, h2⟩ := R
  obtain ⟨b, its, e, hb⟩ := rep_ints r
  obtain ⟨g1, g2⟩ := kvt_get (k := ks) h2
  exact ⟨l, ks, b, h1, h2.keys, e, .inr ⟨_, hb⟩, fun d hd => g1 d hd, g2⟩
end
section
variable {X : Cx} {pins : List (Addr × Obj)} {σ : L2.St} {H : Hp} {s : Shared} {μ : List Addr} {st : Sto}
theorem memN_eq (c : Nat) : ∀ l : List Nat, memN c l = decide (c ∈ l)
  | [] => by simp [memN]
  | y :: ys => by
    rw [memN, memN_eq c ys, Bool.eq_iff_iff]
    simp
theorem in_core (neg : Bool) (hu : X.A.units + 200 < cLine) {x y : V} {v u : Value} {Q : VK} (I : Inv X pins σ H s) (rx : RelV x v) (ry : RelV y u) {dx dy : D} {b : Bool} (S : StR X.K μ H st) (r1 : Rep X.K μ H dx x) (r2 : Rep X.K μ H dy y)
    (h : inR st dx dy = some b) (q : Post X.K μ H (.bl (if neg then !b else b)) st Q) : wpAny (model X.prog X.w) X.A (compareOp (if neg then .NotIn else .In) v u) (EP X pins σ Q) X.xe s := by
  cases dy with
  | tup ys =>
    obtain ⟨hp, e⟩ := ifO (show (if (D.plain dx && D.plainL ys) = true then some (anyEq dx ys) else none) = some b from h)
    obtain ⟨p1, p2⟩ := b_and hp
    obtain ⟨a, vs, ob, rfl, ha, hv⟩ := r2
    cases (show u = Value.ref a from ry)
    obtain ⟨as, e1⟩ := rep_reads I 60 dx x v p1 r1 rx
    obtain ⟨its, rv, p, _⟩ := I.tuple (.inl (.inr ⟨_, ha⟩))
    obtain ⟨bs, e2⟩ := repL_reads I 60 ys vs its p2 hv rv
    obtain ⟨a1, a2⟩ := pl_plain 60 dx p1
    obtain ⟨b1, b2⟩ := plL_plain 60 ys p2
    have e3 := tup_reads p e2
    have eb := anyEq_eq p1 p2
    rw [Option.some.inj e] at eb
    cases neg with
    | true => exact PySem.SeqAt.notIn_tuple_data e3 e1 b1 a1 (by omega) ⟨.bl (!b), H, I, by rw [eb]; rfl, q.bl S⟩
    | false => exact PySem.SeqAt.in_tuple_data e3 e1 b1 a1 (by omega) ⟨.bl b, H, I, by rw [eb]; rfl, q.bl S⟩
  | str z =>
    cases dx with
    | str w =>
      cases (show y = .str z from r2)
      cases (show x = .str w from r1)
      have h' : (match w.cps.toList with | [c] => some (memN c z.cps.toList) | _ => none) = some b := h
      obtain ⟨c, hc⟩ : ∃ c, w.cps.toList = [c] := by
        cases e : w.cps.toList with
        | nil => rw [e] at h'; cases h'
        | cons c r =>
          cases r with
          | nil => exact ⟨c, rfl⟩
          | cons _ _ => rw [e] at h'; cases h'
      rw [hc] at h'
      have hw : w = ⟨#[c]⟩ := PySem.W.str_of_cps (by rw [hc])
      subst hw
      have eb : decide (c ∈ z.cps.toList) = b := by rw [← memN_eq]; exact Option.some.inj h'
      cases neg with
      | true => exact op_notIn_sign pins s σ H _ _ v u Q I rx ry ⟨c, z, rfl, rfl, by rw [eb]; exact q.bl S⟩
      | false => exact op_in_sign pins s σ H _ _ v u Q I rx ry ⟨c, z, rfl, rfl, by rw [eb]; exact q.bl S⟩
    | _ => cases h
  | ref l =>
    obtain ⟨a, ha, rfl⟩ := r2
    simp only [inR] at h
    cases e1 : sgetR st l with
    | none => rw [e1] at h; cases h
    | some o =>
      rw [e1] at h
      cases o with
      | lst ys =>
        obtain ⟨hp, e⟩ := ifO (show (if (D.plain dx && D.plainL ys) = true then some (anyEq dx ys) else none) = some b from h)
        obtain ⟨p1, p2⟩ := b_and hp
        obtain ⟨vs, h1, hv⟩ := S.lst ha (sgetR_lst e1)
        cases (show u = Value.ref a from ry)
        obtain ⟨as, e4⟩ := rep_reads I 60 dx x v p1 r1 rx
        obtain ⟨bs, e3, _⟩ := lst_reads I h1 p2 (RepL.iff.mpr hv)
        obtain ⟨a1, a2⟩ := pl_plain 60 dx p1
        obtain ⟨b1, b2⟩ := plL_plain 60 ys p2
        have eb := anyEq_eq p1 p2
        rw [Option.some.inj e] at eb
        cases neg with
        | true => exact PySem.SeqAt.notIn_list_data e3 e4 b1 a1 (by omega) ⟨.bl (!b), H, I, by rw [eb]; rfl, q.bl S⟩
        | false => exact PySem.SeqAt.in_list_data e3 e4 b1 a1 (by omega) ⟨.bl b, H, I, by rw [eb]; rfl, q.bl S⟩
      | dct kvs =>
        obtain ⟨hp, e⟩ := ifO (show (if D.simple dx = true then some (kvGet dx kvs).isSome else none) = some b from h)
        cases (show u = Value.ref a from ry)
        obtain ⟨o, g, q1, q2⟩ := dct_get (S.dct ha e1) hp r1
        have eo : o.isSome = b := by
          rw [← Option.some.inj e]
          cases ek : kvGet dx kvs with
          | none => rw [q2 ek]; rfl
          | some d =>
            obtain ⟨w, ew, _⟩ := q1 d ek
            rw [ew]
            rfl
        cases neg with
        | true => exact d_notIn (by omega) I g rx fun s' I2 => ⟨.bl (!b), H, I2, by rw [eo]; rfl, q.bl S⟩
        | false => exact d_in (by omega) I g rx fun s' I2 => ⟨.bl b, H, I2, by rw [eo]; rfl, q.bl S⟩
      | dcT kvs =>
        obtain ⟨hp, e⟩ := ifO (show (if D.isInts dx = true then some (kvGet dx kvs).isSome else none) = some b from h)
        cases (show u = Value.ref a from ry)
        obtain ⟨l, ks, c, g1, g2, rfl, g3, q1, q2⟩ := dcT_get (S.dctT ha e1) hp r1
        cases (show v = Value.ref c from rx)
        have eo : (valT l ks).isSome = b := by
          rw [← Option.some.inj e]
          cases ek : kvGet dx kvs with
          | none => rw [q2 ek]; rfl
          | some d =>
            obtain ⟨w, ew, _⟩ := q1 d ek
            rw [ew]
            rfl
        cases neg with
        | true => exact t_notIn (by omega) I g1 g2 g3 fun s' I2 => ⟨.bl (!b), H, I2, by rw [eo]; rfl, q.bl S⟩
        | false => exact t_in (by omega) I g1 g2 g3 fun s' I2 => ⟨.bl b, H, I2, by rw [eo]; rfl, q.bl S⟩
      | set ys => cases h
      | lck ys => cases h
      | lcT ys => cases h
      | ins _ _ => cases h
  | _ => cases h
theorem op_cmp_in (hu : X.A.units + 200 < cLine) : OpR X (compareOp .In) (vCmp X.K (cmpop .isin)) := by
  intro pins s σ H x y v u Q I rx ry ⟨μ, dx, dy, st, b, S, r1, r2, h, q⟩
  exact in_core false hu I rx ry S r1 r2 (show inR st dx dy = some b from h) q
theorem op_cmp_notin (hu : X.A.units + 200 < cLine) : OpR X (compareOp .NotIn) (vCmp X.K (cmpop .notin)) := by
  intro pins s σ H x y v u Q I rx ry ⟨μ, dx, dy, st, b, S, r1, r2, h, q⟩
  obtain ⟨c, hc, rfl⟩ := notO (show (match inR st dx dy with | some b => some (!b) | none => none) = some b from h)
  exact in_core true hu I rx ry S r1 r2 hc q
theorem op_cmp (hu : X.A.units + 200 < cLine) (o : Cop) : OpR X (compareOp (pyC o)) (vCmp X.K (cmpop o)) := by
  cases o with
  | eq => exact op_cmp_eq hu
  | ne => exact op_cmp_ne hu
  | lt => exact op_cmp_lt hu
  | le => exact op_cmp_le hu
  | gt => exact op_cmp_gt hu
  | ge => exact op_cmp_ge hu
  | isin => exact op_cmp_in hu
  | notin => exact op_cmp_notin hu
  | is_ => exact op_cmp_is
  | isnot => exact op_cmp_isnot
end
end Ev
end

section
set_option Elab.async false
set_option linter.all false
set_option maxRecDepth 100000
set_option maxHeartbeats 2000000
/-! Snd5: items, slices, stores, truth. -/
namespace Ev
open PySem PySem.Spec L2
theorem place_ix {n : Nat} {i : Int} {k : Nat} (h : place n i = some k) : ixN n i = some k ∧ k < n := by
  unfold place at h
  unfold ixN
  cases i with
  | ofNat j =>
    by_cases hj : j < n
    · have hb : Nat.blt j n = true := Nat.blt_eq.mpr hj
      simp only [hb, if_true] at h
      cases h
      have h1 : (0 : Int) ≤ Int.ofNat k := Int.natCast_nonneg k
      have h2 : Int.ofNat k < (n : Int) := Int.ofNat_lt.mpr hj
      rw [if_pos h1, if_pos h2]
      exact ⟨rfl, hj⟩
    · have hb : Nat.blt j n = false := by
        cases e : Nat.blt j n with
        | false => rfl
        | true => exact absurd (Nat.blt_eq.mp e) hj
      simp only [hb] at h
      cases h
  | negSucc j =>
    by_cases hj : j < n
    · have hb : Nat.blt j n = true := Nat.blt_eq.mpr hj
      simp only [hb, if_true] at h
      cases h
      have h1 : ¬ (0 : Int) ≤ Int.negSucc j := by omega
      have h2 : -(n : Int) ≤ Int.negSucc j := by omega
      rw [if_neg h1, if_pos h2]
      refine ⟨?_, by omega⟩
      congr 1
      omega
    · have hb : Nat.blt j n = false := by
        cases e : Nat.blt j n with
        | false => rfl
        | true => exact absurd (Nat.blt_eq.mp e) hj
      simp only [hb] at h
      cases h
theorem at_ix {α : Type} {xs : List α} {i : Int} {d : α} (h : at_ xs i = some d) : ∃ k, ixN xs.length i = some k ∧ xs[k]? = some d := by
  unfold at_ at h
  cases e : place xs.length i with
  | none => rw [e] at h; cases h
  | some k =>
    rw [e] at h
    have h : nth xs k = some d := h
    rw [nth_eq] at h
    exact ⟨k, (place_ix e).1, h⟩
theorem at_pr {α β : Type} {F : α → β → Prop} {xs : List α} {ys : List β} (r : Paired F xs ys) {i : Int} {d : α} (h : at_ xs i = some d) : ∃ v, atI ys i = some v ∧ F d v := by
  obtain ⟨k, h1, h2⟩ := at_ix h
  obtain ⟨v, h3, h4⟩ := Pr.get r h2
  refine ⟨v, ?_, h4⟩
  unfold atI
  rw [← r.length, h1]
  exact h3
def vIx (K : PySem.W.Frag) : R2 := fun x y H Q => ∃ μ dx dy st d st', StR K μ H st ∧ Rep K μ H dx x ∧ Rep K μ H dy y ∧ item dx dy st = .ok d st' ∧ Post K μ H d st' Q
section
variable {X : Cx}
theorem ix_all (hu : X.A.units + 200 < cLine) : IxR X (vIx X.K) := by
  intro value slice pins s σ H x y v u Q I rx ry ⟨μ, dx, dy, st, d, st', S, r1, r2, h, p⟩ hs
  cases dx with
  | tup xs =>
    cases dy with
    | int i =>
      obtain ⟨a, vs, o, rfl, ha, hv⟩ := r1
      cases (show y = .int i from r2)
      have h : (match at_ xs i with | some d => R.ok d st | none => .no) = .ok d st' := h
      cases e : at_ xs i with
      | none => rw [e] at h; cases h
      | some d' =>
        rw [e] at h
        cases h
        obtain ⟨w, e1, e2⟩ := at_pr (RepL.iff.mp hv) e
        exact ix_tup value slice pins s σ H _ _ v u Q I rx ry ⟨a, vs, i, w, rfl, rfl, .inl (.inr ⟨_, ha⟩), e1, p μ w H .refl e2 S⟩ hs
    | _ => cases h
  | str z =>
    cases dy with
    | int i =>
      cases (show x = .str z from r1)
      cases (show y = .int i from r2)
      have h : (if small z.length = true then (match at_ z.cps.toList i with | some c => R.ok (D.str ⟨#[c]⟩) st | none => .no) else .no) = .ok d st' := h
      obtain ⟨hz, h⟩ := ite_ok h
      cases e : at_ z.cps.toList i with
      | none => rw [e] at h; cases h
      | some c =>
        rw [e] at h
        cases h
        obtain ⟨k, e1, e2⟩ := at_ix e
        refine ix_str value slice pins s σ H _ _ v u Q I rx ry ⟨z, i, c, rfl, rfl, small_iff hz, ?_, p.str S⟩ hs
        unfold atI
        rw [e1]
        exact e2
    | _ => cases h
  | rol ns =>
    cases dy with
    | int i =>
      obtain ⟨a, rfl, ha⟩ := r1
      cases (show y = .int i from r2)
      have h : (match at_ ns i with | some n => R.ok (D.int n) st | none => .no) = .ok d st' := h
      cases e : at_ ns i with
      | none => rw [e] at h; cases h
      | some n =>
        rw [e] at h
        cases h
        obtain ⟨k, e1, e2⟩ := at_ix e
        refine ix_list value slice pins s σ H _ _ v u Q I rx ry ⟨a, ns.map V.int, i, .int n, rfl, rfl, ha.seq, ?_, p.int S⟩ hs
        unfold atI
        rw [List.length_map, e1]
        show (ns.map V.int)[k]? = some (.int n)
        rw [List.getElem?_map, e2]
        rfl
    | _ => cases h
  | ref l =>
    obtain ⟨a, ha, rfl⟩ := r1
    simp only [item] at h
    cases e1 : sgetR st l with
    | none => rw [e1] at h; cases h
    | some o =>
      rw [e1] at h
      cases o with
      | lst xs =>
        cases dy with
        | int i =>
          cases (show y = .int i from r2)
          have h : (match at_ xs i with | some d => R.ok d st | none => .no) = .ok d st' := h
          cases e : at_ xs i with
          | none => rw [e] at h; cases h
          | some d' =>
            rw [e] at h
            cases h
            obtain ⟨vs, h1, hv⟩ := S.lst ha (sgetR_lst e1)
            obtain ⟨w, e2, e3⟩ := at_pr hv e
            exact ix_list value slice pins s σ H _ _ v u Q I rx ry ⟨a, vs, i, w, rfl, rfl, .inl (.inl h1), e2, p μ w H .refl e3 S⟩ hs
        | _ => cases h
      | dct kvs =>
        obtain ⟨hk, h⟩ := ite_ok (show (if D.simple dy = true then (match kvGet dy kvs with | some d => R.ok d st | none => .no) else .no) = .ok d st' from h)
        cases e : kvGet dy kvs with
        | none => rw [e] at h; cases h
        | some d' =>
          rw [e] at h
          cases h
          obtain ⟨o, g, q1, q2⟩ := dct_get (S.dct ha e1) hk r2
          obtain ⟨w, ew, rw'⟩ := q1 _ e
          subst ew
          cases (show v = Value.ref a from rx)
          exact PyProof.Rows.tail_any (dict_typeIs I g) PySem.F.slot_dict_getitem.lookup (d_getItem (by omega) I g ry fun w' s' I2 r' => ⟨w, H, I2, r', p μ w H .refl rw' S⟩) hs
      | dcT kvs =>
        obtain ⟨hk, h⟩ := ite_ok (show (if D.isInts dy = true then (match kvGet dy kvs with | some d => R.ok d st | none => .no) else .no) = .ok d st' from h)
        cases e : kvGet dy kvs with
        | none => rw [e] at h; cases h
        | some d' =>
          rw [e] at h
          cases h
          obtain ⟨l, ks, c, g1, g2, rfl, g3, q1, q2⟩ := dcT_get (S.dctT ha e1) hk r2
          obtain ⟨w, ew, rw'⟩ := q1 _ e
          cases (show v = Value.ref a from rx)
          cases (show u = Value.ref c from ry)
          exact PyProof.Rows.tail_any (td_is I g1).1 PySem.F.slot_dict_getitem.lookup (t_getItem (by omega) I g1 g2 g3 ew fun w' s' I2 r' => ⟨w, H, I2, r', p μ w H .refl rw' S⟩) hs
      | _ => cases h
  | _ => cases h
end
theorem cutAt_sIx (n d : Nat) (o : Option Int) : cutAt n d o = HT.sIx n d o := by
  cases o with
  | none => rfl
  | some v =>
    cases v with
    | ofNat k =>
      refine Eq.trans ?_ (HT.sIx_nat n d k).symm
      show (if Nat.blt k n = true then k else n) = min k n
      by_cases hj : k < n
      · rw [if_pos (Nat.blt_eq.mpr hj)]
        omega
      · rw [if_neg (fun e => hj (Nat.blt_eq.mp e))]
        omega
    | negSucc k =>
      have h1 : Int.negSucc k < 0 := Int.negSucc_lt_zero k
      show n - (k + 1) = if Int.negSucc k < 0 then (Int.negSucc k + (n : Int)).toNat else min (Int.negSucc k).toNat n
      rw [if_pos h1]
      omega
def vCut (K : PySem.W.Frag) : V → Option Int → Option Int → Hp → VK → Prop := fun x lo hi H Q => ∃ μ dx st d st', StR K μ H st ∧ Rep K μ H dx x ∧ cut dx lo hi st = .ok d st' ∧ Post K μ H d st' Q
theorem cutL_eq {α : Type} (xs : List α) (lo hi : Option Int) : cutL xs lo hi = (xs.drop (HT.sIx xs.length 0 lo)).take (HT.sIx xs.length xs.length hi - HT.sIx xs.length 0 lo) := by
  unfold cutL
  rw [cutAt_sIx, cutAt_sIx]
theorem cutL_len {α : Type} (xs : List α) (lo hi : Option Int) : (cutL xs lo hi).length ≤ xs.length := by
  unfold cutL
  rw [List.length_take, List.length_drop]
  omega
theorem cut_pr {α β : Type} {F : α → β → Prop} {xs : List α} {ys : List β} (r : Paired F xs ys) (lo hi : Option Int) : Paired F (cutL xs lo hi) (cutL ys lo hi) := by
  unfold cutL
  rw [r.length]
  exact Pr.take _ (Pr.drop _ r)
section
variable {X : Cx}
theorem sl_all : SlR X (vCut X.K) := by
  intro pins s σ H x v vl vu lo hi sl Q I rx hs pl pu ⟨μ, dx, st, d, st', S, r1, h, p⟩
  cases dx with
  | tup xs =>
    obtain ⟨a, vs, o, rfl, ha, hv⟩ := r1
    cases (show R.ok (D.tup (cutL xs lo hi)) st = .ok d st' from h)
    cases (show v = Value.ref a from rx)
    obtain ⟨its, rv, ht, hz⟩ := I.tuple (.inl (.inr ⟨_, ha⟩))
    have g := RepL.iff.mp hv
    have l1 := g.length
    have l2 := rv.length
    refine ⟨"tuple", _, PyProof.Rows.slot_tuple_getitem.lookup, ht.typeIs, ?_⟩
    by_cases hw : HT.sIx its.toArray.size 0 lo = 0 ∧ HT.sIx its.toArray.size its.toArray.size hi = its.toArray.size
    · refine getItem_tuple_whole ht hs pl pu hw ⟨.ref a, H, I, rfl, p μ _ H .refl ⟨a, vs, o, rfl, ha, ?_⟩ S⟩
      have e : cutL xs lo hi = xs := by
        rw [cutL_eq]
        have hn : its.toArray.size = xs.length := by simp; omega
        rw [hn] at hw
        rw [hw.1, hw.2]
        simp
      rw [e]
      exact hv
    · refine HT.getItem_tuple_cut ht hs pl pu hw ?_ (by simp; omega)
      have e : List.take (HT.sIx its.toArray.size its.toArray.size hi - HT.sIx its.toArray.size 0 lo) (List.drop (HT.sIx its.toArray.size 0 lo) its) = cutL its lo hi := by
        rw [cutL_eq]
        simp
      have q := tup_end (tk := s.toks) (us := cutL its lo hi) (vs := cutL vs lo hi) I S (cut_pr g lo hi) (cut_pr rv lo hi) (Nat.le_trans (cutL_len _ _ _) (by omega)) p
      simpa [tupO, cutL_eq] using q
  | str z =>
    cases (show x = .str z from r1)
    obtain ⟨hz, h⟩ := ite_ok (show (if small z.length = true then R.ok (D.str ⟨(cutL z.cps.toList lo hi).toArray⟩) st else .no) = .ok d st' from h)
    cases h
    refine sl_str pins s σ H _ v vl vu lo hi sl Q I rx hs pl pu ⟨z, rfl, small_iff hz, ?_⟩
    have e : cutS z lo hi = ⟨(cutL z.cps.toList lo hi).toArray⟩ := by
      rw [cutL_eq, Array.length_toList]
      rfl
    rw [e]
    exact p.str S
  | ref l =>
    obtain ⟨a, ha, rfl⟩ := r1
    simp only [cut] at h
    cases e1 : sget st l with
    | none => rw [e1] at h; cases h
    | some o =>
      rw [e1] at h
      cases o with
      | lst xs =>
        obtain ⟨rfl, rfl⟩ := new_ok h
        obtain ⟨vs, h1, hv⟩ := S.lst ha e1
        refine sl_list pins s σ H _ v vl vu lo hi sl Q I rx hs pl pu ⟨a, vs, rfl, .inl (.inl h1), ?_⟩
        have e : cutV vs lo hi = cutL vs lo hi := by
          rw [cutL_eq]
          rfl
        rw [e]
        exact p.lay S (fun z => z) (obj_lst S (cut_pr hv lo hi))
      | _ => cases h
  | _ => cases h
/-! ### o[i] = v -/
def vSet (K : PySem.W.Frag) : TSet := fun o i v H Q => ∃ μ dx dy dv st st' u, StR K μ H st ∧ Rep K μ H dx o ∧ Rep K μ H dy i ∧ Rep K μ H dv v ∧ store dx dy dv st = .ok u st' ∧ ∀ H', Le μ H μ H' → StR K μ H' st' → Q H'
theorem kvr_set {K : PySem.W.Frag} {μ : List Addr} {H : Hp} {k : Key} {d : D} {v : V} (rv : Rep K μ H d v) : ∀ {kvs : List (D × D)} {l : List (Key × V)}, KVR K μ H kvs l → KVR K μ H (kvSet (kD k) d kvs) (l.map fun kv => if kv.1 = k then (kv.1, v) else kv)
  | _, _, .nil => .nil
  | p :: kvs, q :: l, .cons r t => by
    obtain ⟨r1, r2⟩ := r
    have e : kvSet (kD k) d (p :: kvs) = (if D.eqv p.1 (kD k) = true then (p.1, d) else p) :: kvSet (kD k) d kvs := rfl
    rw [e, List.map_cons, r1, eqv_kD]
    refine .cons ?_ (kvr_set rv t)
    by_cases h : q.1 = k
    · rw [decide_eq_true h, if_pos rfl, if_pos h]
      exact ⟨rfl, rv⟩
    · rw [decide_eq_false h, if_neg (by decide), if_neg h]
      exact ⟨r1, r2⟩
theorem kvr_put {K : PySem.W.Frag} {μ : List Addr} {H : Hp} {k : Key} {d : D} {v : V} (rv : Rep K μ H d v) {kvs : List (D × D)} {l : List (Key × V)} (r : KVR K μ H kvs l) : KVR K μ H (kvPut (kD k) d kvs) (putK l k v) := by
  obtain ⟨g1, g2⟩ := kv_get (k := k) r
  unfold kvPut putK
  rw [valV_any]
  cases e : kvGet (kD k) kvs with
  | none =>
    rw [g2 e]
    exact Pr.app r (.cons ⟨rfl, rv⟩ .nil)
  | some d' =>
    obtain ⟨w, ew, _⟩ := g1 d' e
    rw [ew]
    exact kvr_set rv r
theorem kvt_set {K : PySem.W.Frag} {μ : List Addr} {H : Hp} {k : List Int} {d : D} {v : V} (rv : Rep K μ H d v) : ∀ {kvs : List (D × D)} {l : TX}, KVT K μ H kvs l → KVT K μ H (kvSet (.tup (k.map D.int)) d kvs) (l.map fun x => if x.1 = k then (x.1, x.2.1, v) else x)
  | _, _, .nil => .nil
  | p :: kvs, q :: l, .cons r t => by
    obtain ⟨r1, r3, r2⟩ := r
    have e : kvSet (.tup (k.map D.int)) d (p :: kvs) = (if D.eqv p.1 (.tup (k.map D.int)) = true then (p.1, d) else p) :: kvSet (.tup (k.map D.int)) d kvs := rfl
    rw [e, List.map_cons, r1, eqv_ints]
    refine .cons ?_ (kvt_set rv t)
    by_cases h : q.1 = k
    · rw [decide_eq_true h, if_pos rfl, if_pos h]
      exact ⟨rfl, r3, rv⟩
    · rw [decide_eq_false h, if_neg (by decide), if_neg h]
      exact ⟨r1, r3, r2⟩
theorem kvt_put {K : PySem.W.Frag} {μ : List Addr} {H : Hp} {k : List Int} {b : Addr} {d : D} {v : V} (hb : ∃ its, H b = some (.frz (tupO its) (.tup (k.map V.int)))) (rv : Rep K μ H d v) {kvs : List (D × D)} {l : TX} (r : KVT K μ H kvs l) : KVT K μ H (kvPut (.tup (k.map D.int)) d kvs) (putT l k b v) := by
  obtain ⟨g1, g2⟩ := kvt_get (k := k) r
  unfold kvPut putT
  cases e : kvGet (.tup (k.map D.int)) kvs with
  | none =>
    rw [g2 e]
    exact Pr.app r (.cons ⟨rfl, hb, rv⟩ .nil)
  | some d' =>
    obtain ⟨w, ew, _⟩ := g1 d' e
    rw [ew]
    exact kvt_set rv r
theorem set_all (hu : X.A.units + 200 < cLine) : PSet X (vSet X.K) := by
  intro pins s σ H o i v ov iv u Q I r1 r2 r3 ⟨μ, dx, dy, dv, st, st', u', S, q1, q2, q3, h, k⟩
  cases dx with
  | ref l =>
    obtain ⟨a, ha, rfl⟩ := q1
    simp only [store] at h
    cases e1 : sget st l with
    | none => rw [e1] at h; cases h
    | some ob =>
      rw [e1] at h
      cases ob with
      | lst xs =>
        cases dy with
        | int n =>
          cases (show i = .int n from q2)
          have h : (match place xs.length n with | some j => R.ok () (sput st l (.lst (setN xs j dv))) | none => .no) = .ok u' st' := h
          cases e : place xs.length n with
          | none => rw [e] at h; cases h
          | some j =>
            rw [e] at h
            cases h
            obtain ⟨vs, h1, hv⟩ := S.lst ha e1
            obtain ⟨p1, p2⟩ := place_ix e
            refine set_list pins s σ H _ _ v ov iv u Q I r1 r2 r3 ⟨a, vs, n, j, rfl, rfl, h1, by rw [← hv.length]; exact p1, ?_⟩
            have L := le_put ha h1 (fun z => z) (.lst (vs.set j v))
            refine k _ L ?_
            rw [sput_eq, setN_eq]
            exact S.put ha h1 (fun z => z) ⟨_, upd_same, RepL.iff.mpr (Pr.set j (Pr.imp hv fun _ _ r => r.mono L) (q3.mono L))⟩
        | _ => cases h
      | dct kvs =>
        obtain ⟨hb, h⟩ := ite_ok (show (if (D.simple dy && Nat.blt kvs.length line) = true then R.ok () (sput st l (.dct (kvPut dy dv kvs))) else .no) = .ok u' st' from h)
        cases h
        obtain ⟨hk, hz⟩ := b_and hb
        obtain ⟨l', h1, h2⟩ := (show ∃ l, H a = some (.dK l) ∧ KVR X.K μ H kvs l from S.at_ ha e1)
        obtain ⟨key, rfl⟩ := simple_kD hk
        have hz2 : l'.length < sizeLine := by
          have := Nat.blt_eq.mp hz
          rw [← h2.length, sizeLine_eq]
          exact this
        cases (show ov = Value.ref a from r1)
        have L := le_put ha h1 (fun z => z) (.dK (putK l' key v))
        refine d_setItem (by omega) I (DPut.k h1 hz2) (by rw [rep_kD q2] at r2; exact r2) r3 fun s' I2 => ⟨_, I2, k _ L ?_⟩
        rw [sput_eq]
        exact S.put ha h1 (fun z => z) ⟨_, upd_same, kvr_put (q3.mono L) (h2.mono L)⟩
      | dcT kvs =>
        obtain ⟨hb, h⟩ := ite_ok (show (if (D.isInts dy && Nat.blt kvs.length line) = true then R.ok () (sput st l (.dcT (kvPut dy dv kvs))) else .no) = .ok u' st' from h)
        cases h
        obtain ⟨hk, hz⟩ := b_and hb
        obtain ⟨l', h1, h2⟩ := (show ∃ l, H a = some (.ext (TDp a l)) ∧ KVT X.K μ H kvs l from S.at_ ha e1)
        obtain ⟨ks, rfl⟩ := isInts_ok hk
        obtain ⟨c, its, rfl, hc⟩ := rep_ints q2
        have hz2 : l'.length < sizeLine := by
          have := Nat.blt_eq.mp hz
          rw [← h2.length, sizeLine_eq]
          exact this
        cases (show ov = Value.ref a from r1)
        cases (show iv = Value.ref c from r2)
        have L := le_put ha h1 (fun z => z) (.ext (TDp a (putT l' ks c v)))
        refine t_setItem (by omega) I h1 h2.keys (.inr ⟨_, hc⟩) hz2 r3 fun s' I2 => ⟨_, I2, k _ L ?_⟩
        rw [sput_eq]
        exact S.put ha h1 (fun z => z) ⟨_, upd_same, kvt_put ⟨its, L.im _ _ hc trivial⟩ (q3.mono L) (h2.mono L)⟩
      | _ => cases h
  | _ => cases h
/-! ### truth -/
def vTru (K : PySem.W.Frag) : V → Hp → (Bool → Hp → Prop) → Prop := fun x H Q => ∃ μ d st b, StR K μ H st ∧ Rep K μ H d x ∧ truth st d = some b ∧ Q b H
theorem tru_all : TruR X (vTru X.K) := by
  intro pins s σ H x v Q I rx ⟨μ, d, st, b, S, r, h, q⟩
  refine tru_ok pins s σ H x v Q I rx ⟨b, ?_, q⟩
  cases d with
  | non => cases (show x = .non from r); exact (Option.some.inj h).symm
  | bl c => cases (show x = .bl c from r); exact (Option.some.inj h).symm
  | int c => cases (show x = .int c from r); exact (Option.some.inj h).symm
  | str z =>
    cases (show x = .str z from r)
    obtain ⟨hz, h⟩ := ifO (show (if small z.length = true then some (!z.cps.toList.isEmpty) else none) = some b from h)
    refine ⟨small_iff hz, ?_⟩
    rw [← Option.some.inj h]
    show (!z.cps.toList.isEmpty) = ((z.cps.size : Int) != 0)
    cases e : z.cps.toList with
    | nil =>
      have : z.cps.size = 0 := by rw [← Array.length_toList, e]; rfl
      rw [this]
      rfl
    | cons c r =>
      have : z.cps.size = r.length + 1 := by rw [← Array.length_toList, e]; rfl
      rw [this]
      simp
      omega
  | tup xs =>
    obtain ⟨a, vs, o, rfl, ha, hv⟩ := r
    have e : b = !vs.isEmpty := by
      rw [← Option.some.inj h]
      have g := RepL.iff.mp hv
      cases g <;> rfl
    exact .inr (.inl ⟨vs, .inl (.inr ⟨_, ha⟩), e⟩)
  | ref l =>
    obtain ⟨a, ha, rfl⟩ := r
    simp only [truth] at h
    cases e1 : sgetR st l with
    | none => rw [e1] at h; cases h
    | some ob =>
      rw [e1] at h
      cases ob with
      | lst xs =>
        obtain ⟨vs, h1, hv⟩ := S.lst ha (sgetR_lst e1)
        have e : b = !vs.isEmpty := by
          rw [← Option.some.inj h]
          cases hv <;> rfl
        exact .inl ⟨vs, .inl (.inl h1), e⟩
      | _ => cases h
  | fn _ => exact r.elim
  | rol _ => cases h
end
end Ev
end

section
set_option Elab.async false
set_option linter.all false
set_option maxRecDepth 100000
set_option maxHeartbeats 2000000
/-! Snd6: the readings by the runner, and the rules for expressions. -/
namespace Ev
open PySem PySem.Spec L2
/-- what is wanted of an exception -/
abbrev ZT := List Addr → Hp → Exn → Sto → Prop
def ZMono (Z : ZT) : Prop := ∀ (μ : List Addr) (H : Hp) (μ' : List Addr) (H' : Hp) (x : Exn) (st : Sto), Le μ H μ' H' → Z μ H x st → Z μ' H' x st
def Z0 : ZT := fun _ _ _ _ => False
theorem z0_mono : ZMono Z0 := fun _ _ _ _ _ _ _ h => h
section
variable {α β : Type} {r : R α} {f : α → Sto → R β} {Q : β → Sto → Prop} {P P' : α → Sto → Prop} {Z Z' : Exn → Sto → Prop}
theorem pst_bind (h : (r.bind f).pst Q Z) : r.pst (fun a st => (f a st).pst Q Z) Z := by
  cases r <;> exact h
theorem bind_pst (h : r.pst (fun a st => (f a st).pst Q Z) Z) : (r.bind f).pst Q Z := by
  cases r <;> exact h
theorem pst_mono (h : r.pst P Z) (hp : ∀ a st, P a st → P' a st) (hz : ∀ x st, Z x st → Z' x st) : r.pst P' Z' := by
  cases r with
  | ok a st => exact hp _ _ h
  | no => exact h
  | ex x st => exact hz _ _ h
theorem pst_val (h : r.val.pst P Z) : ∃ a st, r = .ok a st ∧ P a st := by
  cases r with
  | ok a st => exact ⟨a, st, rfl, h⟩
  | no => exact h.elim
  | ex x st => exact h.elim
theorem val_pst (h : r.val.pst P Z) : r.pst P Z' := by
  cases r with
  | ok a st => exact h
  | no => exact h.elim
  | ex x st => exact h.elim
theorem pst_okO {o : Option α} {st : Sto} (h : (okO st o).pst P Z) : ∃ a, o = some a ∧ P a st := by
  cases o with
  | none => exact h.elim
  | some a => exact ⟨a, rfl, h⟩
theorem pst_ofB {o : Option Bool} {st : Sto} {P : D → Sto → Prop} (h : (ofB st o).pst P Z) : ∃ a, o = some a ∧ P (.bl a) st := by
  cases o with
  | none => exact h.elim
  | some a => exact ⟨a, rfl, h⟩
theorem pst_ite {b : Bool} (h : (if b = true then r else R.no).pst P Z) : b = true ∧ r.pst P Z := by
  cases b with
  | true => exact ⟨rfl, by simpa using h⟩
  | false =>
    rw [if_neg (by decide)] at h
    exact h.elim
end
theorem Post.mono {K : PySem.W.Frag} {μ μ' : List Addr} {H H' : Hp} {d : D} {st : Sto} {Q : VK} (p : Post K μ H d st Q) (L : Le μ H μ' H') : Post K μ' H' d st Q := fun μ2 v H2 L2 r S => p μ2 v H2 (L.trans L2) r S
def PostA (K : PySem.W.Frag) (μ : List Addr) (H : Hp) (ds : List D) (st' : Sto) (Q : List V → Hp → Prop) : Prop := ∀ μ' vs H', Le μ H μ' H' → RepL K μ' H' ds vs → StR K μ' H' st' → Q vs H'
def PostT (K : PySem.W.Frag) (μ : List Addr) (H : Hp) (b : Bool) (st' : Sto) (Q : Bool → Hp → Prop) : Prop := ∀ μ' H', Le μ H μ' H' → StR K μ' H' st' → Q b H'
/-- an item as an iterator gives it -/
def ItemR (K : PySem.W.Frag) (pr : Bool) (μ : List Addr) (H H' : Hp) (d : D) (x : V) : Prop := match pr with
  | false => H' = H ∧ Rep K μ H d x
  | true => ∃ T v w d1 d2, d = .tup [d1, d2] ∧ x = .ref T ∧ H T = none ∧ H' = upd H T (.tup [v, w]) ∧ Rep K μ H d1 v ∧ Rep K μ H d2 w
/-- what stands unchanged, kept -/
structure Le0 (μ : List Addr) (H : Hp) (μ' : List Addr) (H' : Hp) : Prop where
  pre : ∀ (l : Nat) (a : Addr), μ[l]? = some a → μ'[l]? = some a
  im : ∀ a o, H a = some o → Imm o → H' a = some o
theorem Le.le0 {μ μ' : List Addr} {H H' : Hp} (L : Le μ H μ' H') : Le0 μ H μ' H' := ⟨L.pre, L.im⟩
theorem Le0.trans {μ μ' μ2 : List Addr} {H H' H2 : Hp} (L : Le0 μ H μ' H') (L' : Le0 μ' H' μ2 H2) : Le0 μ H μ2 H2 := ⟨fun l a h => L'.pre l a (L.pre l a h), fun a o h i => L'.im a o (L.im a o h i) i⟩
/-- an iterator that gives these items -/
def ItOk (K : PySem.W.Frag) (J : L2.It) (it : Ev.It) (μ : List Addr) (H : Hp) : Prop := ∀ (i : Nat) μ2 H2 st2, Le0 μ H μ2 H2 → StR K μ2 H2 st2 → srcOk st2 it.src = true →
  (∀ d, it.items[i]? = some d → J.go i H2 ∧ ∀ x H3, J.yld i H2 x H3 → ItemR K it.pr μ2 H2 H3 d x) ∧ (it.items[i]? = none → J.stop i H2)
def PostI (K : PySem.W.Frag) (μ : List Addr) (H : Hp) (it : Ev.It) (st' : Sto) (R : L2.It → Hp → Prop) : Prop := ∀ μ' J H', Le μ H μ' H' → StR K μ' H' st' → ItOk K J it μ' H' → R J H'
def PostS (K : PySem.W.Frag) (μ : List Addr) (H : Hp) (o : Out) (st' : Sto) (D : Ends) : Prop := match o with
  | .nx env => ∀ μ' σ' H', Le μ H μ' H' → EnvR K μ' H' env σ' → StR K μ' H' st' → D.nx σ' H'
  | .rt d => ∀ μ' v H', Le μ H μ' H' → Rep K μ' H' d v → StR K μ' H' st' → D.rt v H'
  | .bk env => ∀ μ' σ' H', Le μ H μ' H' → EnvR K μ' H' env σ' → StR K μ' H' st' → D.bk σ' H'
  | .ct env => ∀ μ' σ' H', Le μ H μ' H' → EnvR K μ' H' env σ' → StR K μ' H' st' → D.ct σ' H'
section
variable (K : PySem.W.Frag) (Z : ZT) (r : Ev)
def tE (e : E) : TE := fun σ H Q => ∃ μ env st, EnvR K μ H env σ ∧ StR K μ H st ∧ (r.e e env st).pst (fun d st' => Post K μ H d st' Q) (Z μ H)
def tEs (e : E) : TA := fun σ H Q => ∃ μ env st, EnvR K μ H env σ ∧ StR K μ H st ∧ (r.es e env st).pst (fun d st' => PostA K μ H d st' Q) (Z μ H)
def tT (e : E) : TT := fun σ H Q => ∃ μ env st, EnvR K μ H env σ ∧ StR K μ H st ∧ (r.t e env st).pst (fun d st' => PostT K μ H d st' Q) (Z μ H)
def tI (e : E) : TI := fun σ H Q => ∃ μ env st, EnvR K μ H env σ ∧ StR K μ H st ∧ (r.i e env st).pst (fun d st' => PostI K μ H d st' Q) (Z μ H)
def tS (s : S) : TS := fun D σ H => ∃ μ env st, EnvR K μ H env σ ∧ StR K μ H st ∧ (r.s s env st).pst (fun d st' => PostS K μ H d st' D) (Z μ H)
end
section
variable {K : PySem.W.Frag} {Z : ZT} {r : Ev} {μ : List Addr} {H : Hp} {env : Env} {σ : L2.St} {st : Sto} {β : Type} {A : β → Sto → Prop} {e : E}
theorem seqE (hz : ZMono Z) (hE : EnvR K μ H env σ) (hS : StR K μ H st) {f : D → Sto → R β} (h : ((r.e e env st).bind f).pst A (Z μ H)) {Q : VK}
    (k : ∀ d st1 μ1 v H1, Le μ H μ1 H1 → Rep K μ1 H1 d v → StR K μ1 H1 st1 → (f d st1).pst A (Z μ1 H1) → Q v H1) : tE K Z r e σ H Q :=
  ⟨μ, env, st, hE, hS, pst_mono (pst_bind h) (fun d st1 q μ1 v H1 L rv S => k d st1 μ1 v H1 L rv S (pst_mono q (fun _ _ z => z) fun _ _ z => hz _ _ _ _ _ _ L z)) fun _ _ z => z⟩
theorem seqA (hz : ZMono Z) (hE : EnvR K μ H env σ) (hS : StR K μ H st) {f : List D → Sto → R β} (h : ((r.es e env st).bind f).pst A (Z μ H)) {Q : List V → Hp → Prop}
    (k : ∀ d st1 μ1 v H1, Le μ H μ1 H1 → RepL K μ1 H1 d v → StR K μ1 H1 st1 → (f d st1).pst A (Z μ1 H1) → Q v H1) : tEs K Z r e σ H Q :=
  ⟨μ, env, st, hE, hS, pst_mono (pst_bind h) (fun d st1 q μ1 v H1 L rv S => k d st1 μ1 v H1 L rv S (pst_mono q (fun _ _ z => z) fun _ _ z => hz _ _ _ _ _ _ L z)) fun _ _ z => z⟩
theorem seqT (hz : ZMono Z) (hE : EnvR K μ H env σ) (hS : StR K μ H st) {f : Bool → Sto → R β} (h : ((r.t e env st).bind f).pst A (Z μ H)) {Q : Bool → Hp → Prop}
    (k : ∀ d st1 μ1 H1, Le μ H μ1 H1 → StR K μ1 H1 st1 → (f d st1).pst A (Z μ1 H1) → Q d H1) : tT K Z r e σ H Q :=
  ⟨μ, env, st, hE, hS, pst_mono (pst_bind h) (fun d st1 q μ1 H1 L S => k d st1 μ1 H1 L S (pst_mono q (fun _ _ z => z) fun _ _ z => hz _ _ _ _ _ _ L z)) fun _ _ z => z⟩
theorem seqI (hz : ZMono Z) (hE : EnvR K μ H env σ) (hS : StR K μ H st) {f : Ev.It → Sto → R β} (h : ((r.i e env st).bind f).pst A (Z μ H)) {Q : L2.It → Hp → Prop}
    (k : ∀ d st1 μ1 J H1, Le μ H μ1 H1 → ItOk K J d μ1 H1 → StR K μ1 H1 st1 → (f d st1).pst A (Z μ1 H1) → Q J H1) : tI K Z r e σ H Q :=
  ⟨μ, env, st, hE, hS, pst_mono (pst_bind h) (fun d st1 q μ1 J H1 L S rv => k d st1 μ1 J H1 L rv S (pst_mono q (fun _ _ z => z) fun _ _ z => hz _ _ _ _ _ _ L z)) fun _ _ z => z⟩
/-- the last step of all -/
theorem endE (hz : ZMono Z) {μ0 : List Addr} {H0 : Hp} (L : Le μ0 H0 μ H) (hE : EnvR K μ H env σ) (hS : StR K μ H st) {Q : VK} (h : (r.e e env st).pst (fun d st' => Post K μ0 H0 d st' Q) (Z μ H)) : tE K Z r e σ H Q :=
  ⟨μ, env, st, hE, hS, pst_mono h (fun _ _ p => p.mono L) fun _ _ z => z⟩
end
theorem impE {X : Cx} {e : Expr} {t t' : TE} (h : PE X e t) (k : ∀ σ H Q, t' σ H Q → t σ H Q) : PE X e t' := ⟨fun pins s σ H Q I q => h.run pins s σ H Q I (k σ H Q q)⟩
theorem impT {X : Cx} {e : Expr} {t t' : TT} (h : PT X e t) (k : ∀ σ H Q, t' σ H Q → t σ H Q) : PT X e t' := ⟨fun pins s σ H Q I q => h.run pins s σ H Q I (k σ H Q q)⟩
theorem impA {X : Cx} {e : List Expr} {t t' : TA} (h : PA X e t) (k : ∀ σ H Q, t' σ H Q → t σ H Q) : PA X e t' := ⟨fun pos pins s σ H Q I q => h.run pos pins s σ H Q I (k σ H Q q)⟩
theorem impI {X : Cx} {g e : Expr} {t t' : TI} (h : PI X g e t) (k : ∀ σ H Q, t' σ H Q → t σ H Q) : PI X g e t' := ⟨fun pins s σ H Q I q => h.run pins s σ H Q I (k σ H Q q)⟩
theorem impS {X : Cx} {e : Stmt} {t t' : TS} (h : PS X e t) (k : ∀ D σ H, t' D σ H → t D σ H) : PS X e t' := ⟨fun pins s σ H D I q => h.run pins s σ H D I (k D σ H q)⟩
theorem impSs {X : Cx} {e : List Stmt} {t t' : TS} (h : PSs X e t) (k : ∀ D σ H, t' D σ H → t D σ H) : PSs X e t' := ⟨fun pins s σ H D I q => h.run pins s σ H D I (k D σ H q)⟩
/-! ### arguments -/
def nst : Expr → Bool
  | .Starred _ _ => false
  | _ => true
def nsts : List Expr → Bool
  | [] => true
  | e :: es => nst e && nsts es
theorem star_cons {e : Expr} {es : List Expr} {env : PySem.Env} (h : nst e = true) : starEach (e :: es) env = (false, eval e env) :: starEach es env := by
  cases e <;> first | rfl | cases h
section
variable {X : Cx} {Z : ZT} {P : List Fn} {n : Nat} {r rc : Ev} {a b c : E} {xa xb xc : Expr} {pos : Pos}
theorem a_nil : PA X [] (tEs X.K Z (step P n r rc) .nil) := impA pa_nil fun σ H Q ⟨μ, env, st, hE, hS, h⟩ => h μ [] H .refl rfl hS
theorem a_cons {xs : List Expr} (hz : ZMono Z) (ha : PE X xa (tE X.K Z r a)) (hb : PA X xs (tEs X.K Z r b)) (hs : nst xa = true) : PA X (xa :: xs) (tEs X.K Z (step P n r rc) (.cons a b)) :=
  impA (pa_cons ha hb (star_cons hs)) fun σ H Q ⟨μ, env, st, hE, hS, h⟩ =>
    seqE hz hE hS h fun d st1 μ1 v H1 L1 r1 S1 h1 => seqA hz (hE.mono L1) S1 h1 fun ds st2 μ2 vs H2 L2 r2 S2 h2 => h2 μ2 (v :: vs) H2 (L1.trans L2) ⟨v, vs, rfl, r1.mono L2, r2⟩ S2
/-! ### names, constants -/
theorem e_var {i : Nat} {x : Str} (hN : X.N[i]? = some x) (hv : Vis X.env.scope x) (hd : (x == ("__debug__" : Str)) = false) (hcd : (x == ("__classdict__" : Str)) = false) : PE X (.Name x pos) (tE X.K Z (step P n r rc) (.var i)) :=
  impE (pe_var hN hv hd hcd) fun σ H Q ⟨μ, env, st, hE, hS, h⟩ => by
    obtain ⟨d, e, p⟩ := pst_okO h
    obtain ⟨v, h1, h2⟩ := hE.at_ i d e
    exact ⟨v, h1, p μ v H .refl h2 hS⟩
/-- constants as they are written -/
def cstOk : D → Const → Bool
  | .non, .none => true
  | .bl a, .bool b => a == b
  | .int i, .int j => i == j
  | .str x, .str y => decide (x = y)
  | _, _ => false
theorem e_cst {d : D} {k : Const} {j : Nat} (h : cstOk d k = true) : PE X (.Constant k j pos) (tE X.K Z (step P n r rc) (.cst d)) := by
  cases d <;> cases k <;> first | (exact absurd h Bool.false_ne_true) | skip
  · exact impE pe_non fun σ H Q ⟨μ, env, st, hE, hS, h⟩ => h.non hS
  · cases eq_of_beq (show (_ == _) = true from h)
    exact impE pe_bl fun σ H Q ⟨μ, env, st, hE, hS, h⟩ => h.bl hS
  · cases eq_of_beq (show (_ == _) = true from h)
    exact impE pe_int fun σ H Q ⟨μ, env, st, hE, hS, h⟩ => h.int hS
  · cases of_decide_eq_true (show decide _ = true from h)
    exact impE pe_str fun σ H Q ⟨μ, env, st, hE, hS, h⟩ => h.str hS
/-! ### operators -/
theorem e_bin (hz : ZMono Z) {o : Bop} (ha : PE X xa (tE X.K Z r a)) (hb : PE X xb (tE X.K Z r b)) : PE X (.BinOp xa (pyB o) xb pos) (tE X.K Z (step P n r rc) (.bin o a b)) :=
  impE (pe_op (op_bin o) ha hb) fun σ H Q ⟨μ, env, st, hE, hS, h⟩ =>
    seqE hz hE hS h fun d st1 μ1 v H1 L1 r1 S1 h1 => seqE hz (hE.mono L1) S1 h1 fun d2 st2 μ2 v2 H2 L2 r2 S2 h2 => by
      obtain ⟨d3, st3, e, q⟩ := pst_val h2
      exact ⟨μ2, d, d2, st2, d3, st3, S2, r1.mono L2, r2, e, q.mono (L1.trans L2)⟩
theorem e_neg (hz : ZMono Z) (ha : PE X xa (tE X.K Z r a)) : PE X (.UnaryOp .USub xa pos) (tE X.K Z (step P n r rc) (.neg a)) :=
  impE (pe_un un_neg ha) fun σ H Q ⟨μ, env, st, hE, hS, h⟩ =>
    seqE hz hE hS h fun d st1 μ1 v H1 L1 r1 S1 h1 => by
      cases d with
      | int i => exact ⟨i, r1, h1 μ1 (.int (-i)) H1 L1 rfl S1⟩
      | _ => exact h1.elim
theorem e_cmp (hu : X.A.units + 200 < cLine) (hz : ZMono Z) {o : Cop} (ha : PE X xa (tE X.K Z r a)) (hb : PE X xb (tE X.K Z r b)) (hm : behindInMarks (pyC o) xb = false) : PE X (.Compare xa [pyC o] [xb] pos) (tE X.K Z (step P n r rc) (.cmp o a b)) :=
  impE (pe_cmpR (op_cmp hu o) ha hb hm) fun σ H Q ⟨μ, env, st, hE, hS, h⟩ =>
    seqE hz hE hS h fun d st1 μ1 v H1 L1 r1 S1 h1 => seqE hz (hE.mono L1) S1 h1 fun d2 st2 μ2 v2 H2 L2 r2 S2 h2 => by
      obtain ⟨k, e, q⟩ := pst_ofB h2
      exact ⟨μ2, d, d2, st2, k, S2, r1.mono L2, r2, e, q.mono (L1.trans L2)⟩
theorem t_cmp (hu : X.A.units + 200 < cLine) (hz : ZMono Z) {o : Cop} (ha : PE X xa (tE X.K Z r a)) (hb : PE X xb (tE X.K Z r b)) (hm : behindInMarks (pyC o) xb = false) : PT X (.Compare xa [pyC o] [xb] pos) (fun σ H Q => tE X.K Z (step P n r rc) (.cmp o a b) σ H fun x H' => ∃ k, x = .bl k ∧ Q k H') :=
  impT (pt_cmpR (op_cmp hu o) ha hb hm) fun σ H Q ⟨μ, env, st, hE, hS, h⟩ =>
    seqE hz hE hS h fun d st1 μ1 v H1 L1 r1 S1 h1 => seqE hz (hE.mono L1) S1 h1 fun d2 st2 μ2 v2 H2 L2 r2 S2 h2 => by
      obtain ⟨k, e, q⟩ := pst_ofB h2
      exact ⟨μ2, d, d2, st2, k, S2, r1.mono L2, r2, e, q.mono (L1.trans L2)⟩
theorem cmp2_core {o p : Cop} (hz : ZMono Z) {σ : L2.St} {H : Hp} {Q : VK} (h : tE X.K Z (step P n r rc) (.cmp2 o p a b c) σ H Q) :
    tChain (vCmp X.K (cmpop o)) (vCmp X.K (cmpop p)) (tE X.K Z r a) (tE X.K Z r b) (tE X.K Z r c) σ H Q := by
  obtain ⟨μ, env, st, hE, hS, h⟩ := h
  refine seqE hz hE hS h fun d st1 μ1 v H1 L1 r1 S1 h1 => seqE hz (hE.mono L1) S1 h1 fun d2 st2 μ2 v2 H2 L2 r2 S2 h2 => ?_
  cases e : cmpop o d d2 st2 with
  | none => rw [e] at h2; exact h2.elim
  | some k =>
    refine ⟨μ2, d, d2, st2, k, S2, r1.mono L2, r2, e, fun μ3 v3 H3 L3 r3 S3 => ⟨k, r3, ?_⟩⟩
    rw [e] at h2
    cases k with
    | false => exact h2 μ3 _ H3 ((L1.trans L2).trans L3) rfl S3
    | true =>
      refine seqE hz (((hE.mono L1).mono L2).mono L3) S3 (pst_mono h2 (fun _ _ z => z) fun _ _ z => hz _ _ _ _ _ _ L3 z) fun d4 st4 μ4 v4 H4 L4 r4 S4 h4 => ?_
      obtain ⟨k, e, q⟩ := pst_ofB h4
      exact ⟨μ4, d2, d4, st4, k, S4, (r2.mono L3).mono L4, r4, e, q.mono (((L1.trans L2).trans L3).trans L4)⟩
theorem e_cmp2 (hu : X.A.units + 200 < cLine) (hz : ZMono Z) {o p : Cop} (ha : PE X xa (tE X.K Z r a)) (hb : PE X xb (tE X.K Z r b)) (hc : PE X xc (tE X.K Z r c)) (hm : lastMarks [pyC o, pyC p] [xb, xc] = false) :
    PE X (.Compare xa [pyC o, pyC p] [xb, xc] pos) (tE X.K Z (step P n r rc) (.cmp2 o p a b c)) := impE (pe_chain (op_cmp hu o) (op_cmp hu p) ha hb hc hm) fun σ H Q h => cmp2_core hz h
theorem t_cmp2 (hu : X.A.units + 200 < cLine) (hz : ZMono Z) {o p : Cop} (ha : PE X xa (tE X.K Z r a)) (hb : PE X xb (tE X.K Z r b)) (hc : PE X xc (tE X.K Z r c)) (hm : lastMarks [pyC o, pyC p] [xb, xc] = false) :
    PT X (.Compare xa [pyC o, pyC p] [xb, xc] pos) (fun σ H Q => tE X.K Z (step P n r rc) (.cmp2 o p a b c) σ H fun x H' => ∃ k, x = .bl k ∧ Q k H') := impT (pt_chain (op_cmp hu o) (op_cmp hu p) ha hb hc hm) fun σ H Q h => cmp2_core hz h
end
end Ev
end

section
set_option Elab.async false
set_option linter.all false
set_option maxRecDepth 100000
set_option maxHeartbeats 2000000
/-! Snd6b: rows turned round. -/
namespace HT
open PySem PySem.Spec PyProof.Rows
section
variable {prog : Program} {w : World} {A : Around} {E : Value → Shared → Prop} {s : Shared}
theorem rev_places (n : Nat) : Builtin.Slice.slicePlaces ((n : Int) - 1) (-1) (-1) = n := by
  unfold Builtin.Slice.slicePlaces
  have h1 : ¬ ((-1 : Int) > 0) := by omega
  rw [if_neg h1]
  have e : (-(-1 : Int)) = 1 := by omega
  rw [e, Int.ediv_one]
  split <;> omega
theorem sliceApplied_rev {sl : Addr} {tk : Tok} {n : Nat} {Q : Int × Int × Nat → Shared → Prop} (hs : s.heap.IsSliceOf sl .none .none (.int (-1) tk)) (h : Q ((n : Int) - 1, -1, n) s) : wpAny (model prog w) A (Builtin.Slice.sliceApplied (.ref sl) (pure (n : Int))) Q E s := by
  obtain ⟨os, hos, hcs, hds⟩ := id hs
  unfold Builtin.Slice.sliceApplied Builtin.Slice.sliceFields
  refine wpAny_bind (wpAny_bind (wpAny_field hos hds (x := .none) rfl (wpAny_bind (wpAny_field hos hds (x := .none) rfl (wpAny_bind (wpAny_field hos hds (x := .int (-1) tk) rfl (wpAny_pure ?_)))))))
  refine wpAny_bind (slicePart_int ?_)
  show wpAny _ _ (if ((-1 : Int) == 0) = true then _ else _) _ _ s
  rw [if_neg (by decide)]
  refine wpAny_bind (slicePart_none (wpAny_bind (slicePart_none (wpAny_bind (wpAny_pure ?_)))))
  show wpAny _ _ (pure (((n : Int) - 1), (-1 : Int), Builtin.Slice.slicePlaces ((n : Int) - 1) (-1) (-1))) _ _ s
  rw [rev_places]
  exact wpAny_pure h
theorem fm_congr {f g : Nat → Option Value} : ∀ l : List Nat, (∀ x ∈ l, f x = g x) → l.filterMap f = l.filterMap g
  | [], _ => rfl
  | x :: l, h => by rw [List.filterMap_cons, List.filterMap_cons, h x (by simp), fm_congr l fun y hy => h y (by simp [hy])]
theorem pick_rev (xs : Array Value) : ((List.range xs.size).filterMap fun (m : Nat) => xs[((xs.size : Int) - 1 + (m : Int) * (-1)).toNat]?).toArray = xs.toList.reverse.toArray := by
  congr 1
  have e : ∀ m ∈ List.range xs.size, xs[((xs.size : Int) - 1 + (m : Int) * (-1)).toNat]? = xs.toList.reverse[m]? := fun m hm => by
    have hm := List.mem_range.mp hm
    have e1 : ((xs.size : Int) - 1 + (m : Int) * (-1)).toNat = xs.size - 1 - m := by omega
    rw [e1, List.getElem?_reverse (by simpa using hm), Array.getElem?_toList, Array.length_toList]
  have hl : xs.toList.reverse.length = xs.size := by simp
  have go : ∀ (l : List Value) (k : Nat), k ≤ l.length → (List.range k).filterMap (fun m => l[m]?) = l.take k := by
    intro l k
    induction k with
    | zero => intro _; simp
    | succ k ih =>
      intro hk
      rw [List.range_succ, List.filterMap_append, ih (by omega), List.take_add_one]
      have : l[k]? = some l[k] := List.getElem?_eq_getElem (by omega)
      simp [this]
  have e2 : (List.range xs.size).filterMap (fun (m : Nat) => xs[((xs.size : Int) - 1 + (m : Int) * (-1)).toNat]?) = (List.range xs.size).filterMap (fun m => xs.toList.reverse[m]?) := fm_congr _ e
  rw [e2, go _ _ (by omega), List.take_of_length_le (by omega)]
theorem getItem_tuple_rev {t sl : Addr} {items : Array Value} {tk : Tok} {Q : Value → Shared → Prop} (ht : IsTup s.heap t items) (hs : s.heap.IsSliceOf sl .none .none (.int (-1) tk))
    (h : Q (.ref s.heap.objs.size) { s with heap := s.heap.push { cls := .type "tuple", data := .seq items.toList.reverse.toArray } }) (hsz : items.size ≤ sizeLine) : wpAny (model prog w) A (getItem (.ref t) (.ref sl)) Q E s := by
  have htake : sizeOk (.seq items.toList.reverse.toArray) := by
    show items.toList.reverse.toArray.size ≤ sizeLine
    rw [List.size_toArray, List.length_reverse, Array.length_toList]
    exact hsz
  obtain ⟨os, hos, hcs, hds⟩ := id hs
  have hTs : s.TypeIs (.ref sl) "slice" := ⟨os, hos, hcs⟩
  unfold getItem
  try with_reducible refine wpAny_holding ?_
  first | refine wpAny_bind (wpAny_pure ?_) | skip
  refine wpAny_bind (wpAny_sequenceKey ht.typeIs (by decide) ?_)
  refine wpAny_bind (wpAny_callSpecial?_slot (name := Str.ofString "__getitem__") ht.typeIs PyProof.Rows.slot_tuple_getitem
    (wpAny_call_entry PyProof.Rows.slot_tuple_getitem ht.typeIs entry_tuple_getitem ?_ (args_tuple_getitem _ _)))
  show wpAny _ _ (Builtin.Tuple.tupleItemsOf (.ref t) >>= _) _ _ s
  refine wpAny_bind (tupleItemsOf_ ht ?_)
  refine wpAny_bind (wpAny_typeOf hTs ?_)
  rw [if_pos (by decide)]
  refine wpAny_bind (sliceApplied_rev hs ?_)
  have hno : ¬ ((((items.size : Int) - 1) == 0 && (-1 : Int) == 1 && items.size == items.size) = true) := by
    intro q
    rw [Bool.and_eq_true, Bool.and_eq_true] at q
    exact absurd q.1.2 (by decide)
  show wpAny _ _ (if (((items.size : Int) - 1) == 0 && (-1 : Int) == 1 && items.size == items.size) = true then _ else _) _ _ s
  rw [if_neg hno, pick_rev]
  first
    | exact wpAny_bind (m := Builtin.Tuple.tupleExact _) (wpAny_newObj_type (wpAny_pure ⟨_, rfl, wpAny_pure h⟩) htake)
    | exact wpAny_bind (m := Builtin.Tuple.tupleExact _) (wpAny_newObj_type (wpAny_bind (wpAny_pure (wpAny_pure ⟨_, rfl, wpAny_pure h⟩))) htake)
    | exact wpAny_bind (wpAny_bind (m := Builtin.Tuple.tupleExact _) (wpAny_newObj_type (wpAny_pure (wpAny_pure ⟨_, rfl, wpAny_pure h⟩)) htake))
    | exact wpAny_bind (wpAny_bind (m := Builtin.Tuple.tupleExact _) (wpAny_newObj_type (wpAny_pure ⟨_, rfl, wpAny_pure h⟩) htake))
end
end HT
namespace L2
open PySem PySem.Spec PyProof.Rows
/-- e[::-1] of a list or of a tuple -/
def tRevA (K : PySem.W.Frag) (te : TE) : TE := fun σ H Q => te σ H fun x H1 => ∃ a xs, x = .ref a ∧ ((SqL K H1 a xs ∧ ∀ p, H1 p = none → Q (.ref p) (upd H1 p (.lst xs.reverse))) ∨ (SqT K H1 a xs ∧ ∀ its p, H1 p = none → Q (.ref p) (upd H1 p (.frz (Ev.tupO its) (.tup xs.reverse)))))
theorem pe_revA {X : Cx} {e : Expr} {te : TE} {k : Nat} {p1 p2 p3 pos : Pos} (he : PE X e te) : PE X (.Subscript e (.Slice none none (some (.UnaryOp .USub (.Constant (.int 1) k p1) p2)) p3) pos) (tRevA X.K te) := by
  refine ⟨fun pins s σ H Q I h => ?_⟩
  refine Subscript_ (thn (he.run pins s σ H _ I h) fun v s1 ⟨x, H1, I1, r1, q1⟩ => ?_)
  obtain ⟨a, xs, ex, hx⟩ := q1
  subst ex
  cases r1
  have hst : PO X (some (.UnaryOp .USub (.Constant (.int 1) k p1) p2)) (tPart (tUn (rU fun i => .int (-i)) (tC (.int 1)))) := po_some (pe_un un_neg pe_int)
  refine wpAny_Slice (thn (po_none.run pins s1 σ H1 (fun o H2 => o = none ∧ H2 = H1) I1 ⟨rfl, rfl⟩) fun vl s2 ⟨l, H2, I2, pl, el, e2⟩ => ?_)
  subst el e2
  refine thn (po_none.run pins s2 σ H2 (fun o H3 => o = none ∧ H3 = H2) I2 ⟨rfl, rfl⟩) fun vu s3 ⟨u, H3, I3, pu, eu, e3⟩ => ?_
  subst eu e3
  refine thn (hst.run pins s3 σ H3 (fun o H4 => o = some (-1) ∧ H4 = H3) I3 ⟨1, rfl, -1, rfl, rfl, rfl⟩) fun vs s4 ⟨o, H4, I4, ps, eo, e4⟩ => ?_
  subst eo e4
  have I5 : Inv X pins σ H4 { s4 with heap := s4.heap.push { cls := .type "slice", data := .fields #[vl, vu, vs] } } := I4.kept (t' := s4.toks) fun b ob q => Heap.get?_push_of_some _ q
  rcases hx with ⟨hx, q⟩ | ⟨hx, q⟩
  · obtain ⟨its, r, ht, hz⟩ := I5.list hx
    have hlen := r.length
    show wpAny (model X.prog X.w) X.A (subscriptTail e (.Slice none none (some (.UnaryOp .USub (.Constant (.int 1) k p1) p2)) p3) (.ref a) (.ref s4.heap.objs.size)) (EP X pins σ Q) X.xe { s4 with heap := s4.heap.push { cls := .type "slice", data := .fields #[vl, vu, vs] } }
    refine tail_any (ops := [.ref a, .ref s4.heap.objs.size]) ht.isList.typeIs (PySem.slot_list_getitem.lookup) ?_ (by with_unfolding_all rfl)
    refine wpAny_getItem_list_slice ht.isList (Heap.IsSliceOf.new _ vl vu vs) pl pu ps (by decide) ?_ (by rw [List.size_toArray]; omega)
    rw [PySem.W.krv_pick]
    refine ⟨.ref _, _, I5.laid (t' := s4.toks) (o := .lst xs.reverse) (fun b ob q => Heap.get?_push_of_some _ q) (Nat.le_refl _) ?_, rfl, q _ (I5.hok.fresh (Nat.le_refl _))⟩
    exact ⟨by rw [List.length_reverse]; exact hz, _, 0, r.reverse, Heap.get?_push_size _ rfl⟩
  · obtain ⟨its, r, ht, hz⟩ := I5.tuple hx
    have hlen := r.length
    show wpAny (model X.prog X.w) X.A (subscriptTail e (.Slice none none (some (.UnaryOp .USub (.Constant (.int 1) k p1) p2)) p3) (.ref a) (.ref s4.heap.objs.size)) (EP X pins σ Q) X.xe { s4 with heap := s4.heap.push { cls := .type "slice", data := .fields #[vl, vu, vs] } }
    refine tail_any (ops := [.ref a, .ref s4.heap.objs.size]) ht.typeIs (PyProof.Rows.slot_tuple_getitem.lookup) ?_ (by with_unfolding_all rfl)
    cases pl
    cases pu
    obtain ⟨tk, rfl⟩ : ∃ tk, vs = .int (-1) tk := by
      cases ps
      exact ⟨_, rfl⟩
    refine HT.getItem_tuple_rev ht (Heap.IsSliceOf.new _ _ _ _) ?_ (by rw [List.size_toArray]; omega)
    have J := Ev.tup_push (tk := s4.toks) I5 (us := its.reverse) r.reverse (by rw [List.length_reverse]; exact hz)
    exact ⟨.ref _, _, J, rfl, q _ _ (I5.hok.fresh (Nat.le_refl _))⟩
end L2
end

section
set_option Elab.async false
set_option linter.all false
set_option maxRecDepth 100000
set_option maxHeartbeats 2000000
/-! Snd6c: enumerate of a tuple. -/
namespace PySem
open Sem (wp)
open AutoSeq1 (wpAny_loadPart')
set_option maxHeartbeats 1000000 in
theorem ev_enum_new (l : Addr) (items : Array Value) (n : Nat) (dct : Option Addr) (sl : Array (Option Value)) :
    Meets (Builtin.«enumerate.__new__» ⟨[.type "enumerate", .ref l], []⟩) (fun _ R s => s.heap.get? l = some { cls := .type "tuple", dict := dct, data := .seq items n, slots := sl } ∧
      R (.ok (.ret (.ref (s.heap.push { cls := .type "tuple_iterator", data := .fields #[.ref l, .int 0 0] }).objs.size)))
        { s with heap := (s.heap.push { cls := .type "tuple_iterator", data := .fields #[.ref l, .int 0 0] }).push { cls := .type "enumerate", data := .fields #[.none, .bool false, .ref s.heap.objs.size, rawInt 0, .none, .none] } }) :=
  .of_wp fun prog w A R s h => by
    obtain ⟨hp, g, d, tk, os⟩ := s; obtain ⟨hl, h⟩ := h
    have hsub := sub_enumerate
    have hL : Heap.IsTuple (Shared.heap ⟨hp, g, d, tk, os⟩) l items := ⟨_, hl, rfl, n, rfl⟩
    wp_walk using wpAny_loadPart' hl
    refine wpAny_stack_any fun st => wpAny_pure ?_
    split
    · rename_i c _ _ _ _ _
      cases (c == Value.type "enumerate")
      · wp_walk using wpAny_loadPart' hl, wpAny_pyIter_tuple hL
        exact ⟨_, rfl, h⟩
      · wp_walk using wpAny_loadPart' hl, wpAny_pyIter_tuple hL
        exact ⟨_, rfl, h⟩
    · wp_walk using wpAny_loadPart' hl, wpAny_pyIter_tuple hL
      exact ⟨_, rfl, h⟩
theorem ev_enum_call {prog : Program} {w : World} {A : Around} {E : Value → Shared → Prop} {s : Shared} {l : Addr} {items : Array Value} {Q : Value → Shared → Prop} (hL : s.heap.IsTuple l items)
    (h : ∀ h', IsEnum h' (s.heap.objs.size + 1) s.heap.objs.size 0 .none → h'.IsTupleIter s.heap.objs.size l 0 → h'.objs.size = s.heap.objs.size + 2 →
      (∀ b o, s.heap.get? b = some o → h'.get? b = some o) → Q (.ref (s.heap.objs.size + 1)) { s with heap := h' }) :
    wpAny (model prog w) A (call (.type "enumerate") [.ref l]) Q E s := by
  obtain ⟨⟨c, dct, dt, sl⟩, hl, hc, n, hd⟩ := hL
  replace hc : c = .type "tuple" := hc
  replace hd : dt = .seq items n := hd
  subst hc hd
  refine callType_new F.called_enumerate (by decide) (F.typeCall_enumerate_1 _) (F.newCall_enumerate_1 _) (fun obj => F.args_object_init_2 obj _) F.entry_enumerate_new
    (ev_enum_new l items n dct sl) ⟨hl, ?_⟩
  have hz : (s.heap.push { cls := .type "tuple_iterator", data := .fields #[.ref l, .int 0 0] }).objs.size = s.heap.objs.size + 1 := Heap.size_push ..
  show _ ∧ _
  rw [hz]
  have he : IsEnum ((s.heap.push { cls := .type "tuple_iterator", data := .fields #[.ref l, .int 0 0] }).push
      { cls := .type "enumerate", data := .fields #[.none, .bool false, .ref s.heap.objs.size, rawInt 0, .none, .none] }) (s.heap.objs.size + 1) s.heap.objs.size 0 .none := by
    have := Heap.get?_push_size (s.heap.push { cls := .type "tuple_iterator", data := .fields #[.ref l, .int 0 0] })
      (o := { cls := .type "enumerate", data := .fields #[.none, .bool false, .ref s.heap.objs.size, rawInt 0, .none, .none] }) rfl
    rw [hz] at this; exact this
  refine ⟨⟨_, he, rfl⟩, h _ he ⟨_, Heap.get?_push_of_some _ (Heap.get?_push_size _ rfl), rfl, rfl⟩ (by rw [Heap.size_push, hz]) fun b o x => Heap.get?_push_of_some _ (Heap.get?_push_of_some _ x)⟩
end PySem
namespace L2
open PySem PySem.Spec PyProof.Rows
/-- the tuple at a, each item in a new pair -/
def IteT (K : PySem.W.Frag) (a : Addr) : It :=
  ⟨fun i H => ∃ (xs : List V) (x : V), SqT K H a xs ∧ xs[i]? = some x, fun i H v H' => ∃ T x, v = .ref T ∧ H T = none ∧ H' = upd H T (.tup [.int (i : Nat), x]) ∧ ∀ xs, SqT K H a xs → xs[i]? = some x, fun i H => ∃ xs : List V, SqT K H a xs ∧ xs.length ≤ i⟩
theorem turn_enumT {P : Program} {w : World} {K : PySem.W.Frag} {elts : List Expr} {kk : Nat} {tpos : Pos} (a e it : Addr) (hai : a ≠ it) :
    Turn P w K (.Tuple elts kk tpos) (IteT K a) [e, it] e (fun i h => (∃ old, IsEnum h e it ((i : Nat) : Int) old) ∧ h.IsTupleIter it a i ∧ e ≠ it) where
  mem := by simp
  obj := fun i h st b hb => by
    obtain ⟨⟨old, he⟩, ⟨o, ho, hc, hd⟩, _⟩ := st
    have e' : b = e ∨ b = it := by simpa using hb
    rcases e' with z | z
    · rw [z]; exact ⟨_, he, fun v q => nomatch q⟩
    · rw [z]; exact ⟨o, ho, fun v q => by rw [hd] at q; cases q⟩
  keep := fun i h h' st k => let ⟨⟨old, he⟩, hi, hne⟩ := st; ⟨⟨old, k e (by simp) _ he⟩, hi.at fun o q => k it (by simp) o q, hne⟩
  item := by
    intro X hP hw hK hc i pins s σ H E I hf st hg
    subst hP hw hK
    obtain ⟨⟨old, he⟩, hit, hne⟩ := st
    obtain ⟨xs, x, hq, hx⟩ := hg
    obtain ⟨its, rv, p, hz⟩ := I.tuple hq
    obtain ⟨u, hu, ru⟩ := rv.get hx
    have hlen := rv.length
    have hi : i < its.toArray.size := by
      have := (List.getElem?_eq_some_iff.mp hx).1
      simp only [List.size_toArray]
      omega
    have hel : e < s.heap.objs.size := Heap.lt_size he
    have hil : it < s.heap.objs.size := by obtain ⟨_, q, _⟩ := hit; exact Heap.lt_size q
    have hea : e ≠ a := fun z => by
      obtain ⟨o, ho, hc', _⟩ := id p
      rw [← z, he] at ho
      cases ho
      exact absurd (show Value.type "enumerate" = Value.type "tuple" from hc') (by decide)
    have D : Draws X.prog X.w X.A.in1 it [it, a] its.toArray.size (fun i v => its.toArray[i]? = some v) (fun i h => h.IsTupleIter it a i ∧ h.IsTuple a its.toArray) := Draws.tuple (A := X.A.in1) (I.ok.hd hc) it a hai its.toArray
    refine wpAny_pyNext_enum_itemD D he ⟨hit, p⟩ hi hne (by simp [hne, hea]) fun y h' tk hy ho hst' hT hsz hk => ?_
    have ey : y = u := by
      have h1 : its.toArray[i]? = some u := by simpa using hu
      rw [hy] at h1
      exact Option.some.inj h1
    subst ey
    obtain ⟨hit', _⟩ := hst'
    refine ⟨_, rfl, wpAny_letOwnedTupleGo_enum (s := { s with heap := h', toks := tk + 1 }) ho fun h'' he' sb => ?_⟩
    have hT2 : h''.get? s.heap.objs.size = some { cls := .type "tuple", data := .seq #[.int i tk, y] } := (sb.2 _ (Nat.ne_of_gt hel)).trans hT
    have new : ObjOk X.prog X.w (upd H s.heap.objs.size (.tup [.int (i : Nat), x])) h'' s.heap.objs.size (.tup [.int (i : Nat), x]) :=
      ⟨by show 2 ≤ sizeLine; decide, [.int i tk, y], .cons ⟨_, rfl⟩ (.cons ru .nil), ⟨_, hT2, rfl, _, rfl⟩⟩
    have I1 : Inv X pins σ (upd H s.heap.objs.size (.tup [.int (i : Nat), x])) { s with heap := h'', toks := tk + 1 } :=
      I.turnedNew (ch := [e, it]) (fun b ob hb q => (sb.2 b (fun z => hb (by simp [z]))).trans (hk b ob (fun z => hb (by simp [z])) (fun z => hb (by simp [z])) q)) hf (Nat.le_refl _) new
    refine ⟨.ref s.heap.objs.size, _, I1, rfl, ⟨_, x, rfl, I.hok.fresh (Nat.le_refl _), rfl, fun ys hy => by rw [I.tuple_inj hy hq]; exact hx⟩, ⟨⟨y, ?_⟩, hit'.at fun o q => (sb.2 it (Ne.symm hne)).trans q, hne⟩, fun b hb => ?_⟩
    · have e1 : ((i + 1 : Nat) : Int) = (i : Int) + 1 := by omega
      rw [e1]; exact he'
    · have hb' : b < s.heap.objs.size := by
        have e' : b = e ∨ b = it := by simpa using hb
        rcases e' with z | z
        · rw [z]; exact hel
        · rw [z]; exact hil
      rw [upd_ne (Nat.ne_of_lt hb')]
      exact (hf b hb).1
  done := by
    intro X hP hw hK hc i pins s σ H E I hf st hg
    subst hP hw hK
    obtain ⟨⟨old, he⟩, hit, hne⟩ := st
    obtain ⟨xs, hq, hx⟩ := hg
    obtain ⟨its, rv, p, hz⟩ := I.tuple hq
    obtain ⟨f0, f1, f2, f3, f4, f5⟩ := hf it (by simp)
    have hl := rv.length
    have hz0 : its.toArray[i]? = none := by simp; omega
    have D2 : Draws X.prog X.w X.A.in1 it [it, a] i (fun j v => its.toArray[j]? = some v) (fun j h => j = i ∧ h.IsTupleIter it a i ∧ h.IsTuple a its.toArray) :=
      { live := fun _ _ st => let ⟨o, ho, _⟩ := st.2.1; ⟨o, ho⟩
        frame := fun _ _ _ st hk => ⟨st.1, st.2.1.at fun o e => hk it (by simp) o e, st.2.2.at fun o e => hk a (by simp) o e⟩
        item := fun j s Q E hi st hQ => absurd st.1 (Nat.ne_of_lt hi)
        done := fun s Q E st hE => wpAny_nextOf_tuple_end (A := X.A.in1) (I.ok.hd hc) st.2.1 st.2.2 hz0 hE }
    exact wpAny_pyNext_enum_endD D2 he ⟨rfl, hit, p⟩ fun h' eb => ⟨rfl, I.turned (t' := s.toks) (fun b o hb q => eb b o hb q) f0 f1 f3 f4 f5⟩
  self := fun A i s Q E st h => let ⟨⟨_, he⟩, _⟩ := st; wpAny_pyIter_enum he h
/-- enumerate of a list or of a tuple -/
def iEnumA (K : PySem.W.Frag) (ta : TA) : TI := fun σ H R => ta σ H fun vs H1 => ∃ a xs, vs = [.ref a] ∧ ((SqL K H1 a xs ∧ R (Ite K a) H1) ∨ (SqT K H1 a xs ∧ R (IteT K a) H1))
theorem pi_enumA {X : Cx} {e : Expr} {ta : TA} {p pos tpos : Pos} {elts : List Expr} {kk : Nat} (hg : Gl X "enumerate") (hm : X.mg "enumerate" = none) (ha : PA X [e] ta) (hs : starEach [e] X.env = [(false, eval e X.env)]) :
    PI X (.Tuple elts kk tpos) (.Call (.Name "enumerate" p) [e] [] pos) (iEnumA X.K ta) := by
  refine ⟨fun pins s σ H R I h => ?_⟩
  refine Call_ (ld_blt I hg hm boot_enumerate (PyProof.Rows.callWith_type1 (thn (ha.run pos pins s σ H _ I h) fun us s1 ⟨vs, H1, I1, r1, q1⟩ => ?_) hs rfl))
  obtain ⟨a, xs, ex, q⟩ := q1
  subst ex
  cases r1 with
  | cons r rr =>
    cases rr
    cases r
    have fp : ∀ b, b ∈ [s1.heap.objs.size + 1, s1.heap.objs.size] → FpOk X pins H1 b := fun b hb => by
      have e' : b = s1.heap.objs.size + 1 ∨ b = s1.heap.objs.size := by simpa using hb
      have hle : s1.heap.objs.size ≤ b := by
        rcases e' with z | z
        · rw [z]; exact Nat.le_add_right _ _
        · rw [z]; exact Nat.le_refl _
      exact I1.fpOk hle (I1.hok.fresh hle)
    rcases q with ⟨hq, q⟩ | ⟨hq, q⟩
    · obtain ⟨its, rv, p', hz⟩ := I1.list hq
      refine call_enumerate_list p'.isList fun h' he hit hsz hk => wpAny_pyIter_enum he ?_
      have I2 : Inv X pins σ H1 { s1 with heap := h' } := I1.kept (t' := s1.toks) hk
      exact ⟨s1.heap.objs.size + 1, [s1.heap.objs.size + 1, s1.heap.objs.size], _, _, H1, rfl, I2, turn_enum a (s1.heap.objs.size + 1) s1.heap.objs.size, ⟨⟨.none, he⟩, hit, Nat.succ_ne_self _⟩, fp, q⟩
    · obtain ⟨its, rv, p', hz⟩ := I1.tuple hq
      obtain ⟨o0, ho0, _⟩ := id p'
      have hai : a ≠ s1.heap.objs.size := Nat.ne_of_lt (Heap.lt_size ho0)
      refine ev_enum_call p' fun h' he hit hsz hk => wpAny_pyIter_enum he ?_
      have I2 : Inv X pins σ H1 { s1 with heap := h' } := I1.kept (t' := s1.toks) hk
      exact ⟨s1.heap.objs.size + 1, [s1.heap.objs.size + 1, s1.heap.objs.size], _, _, H1, rfl, I2, turn_enumT a (s1.heap.objs.size + 1) s1.heap.objs.size hai, ⟨⟨.none, he⟩, hit, Nat.succ_ne_self _⟩, fp, q⟩
end L2
end

section
set_option Elab.async false
set_option linter.all false
set_option maxRecDepth 100000
set_option maxHeartbeats 2000000
/-! Snd7: and, or, not; displays, items, slices; tests. -/
namespace Ev
open PySem PySem.Spec L2
section
variable {X : Cx} {Z : ZT} {P : List Fn} {n : Nat} {r rc : Ev} {a b c : E} {xa xb xc : Expr} {pos : Pos} {rest : List Expr}
theorem e_and (hz : ZMono Z) (ha : PE X xa (tE X.K Z r a)) (hb : PE X (.BoolOp .And (xb :: rest) pos) (tE X.K Z r b)) : PE X (.BoolOp .And (xa :: xb :: rest) pos) (tE X.K Z (step P n r rc) (.and a b)) :=
  impE (pe_and ha hb) fun σ H Q ⟨μ, env, st, hE, hS, h⟩ =>
    seqE hz hE hS h fun d st1 μ1 v H1 L1 r1 S1 h1 => by
      cases d with
      | bl k =>
        refine ⟨k, r1, ?_⟩
        cases k with
        | true => exact endE hz L1 (hE.mono L1) S1 h1
        | false => exact h1 μ1 (.bl false) H1 L1 rfl S1
      | _ => exact h1.elim
theorem e_or (hz : ZMono Z) (ha : PE X xa (tE X.K Z r a)) (hb : PE X (.BoolOp .Or (xb :: rest) pos) (tE X.K Z r b)) : PE X (.BoolOp .Or (xa :: xb :: rest) pos) (tE X.K Z (step P n r rc) (.or a b)) :=
  impE (pe_or ha hb) fun σ H Q ⟨μ, env, st, hE, hS, h⟩ =>
    seqE hz hE hS h fun d st1 μ1 v H1 L1 r1 S1 h1 => by
      cases d with
      | bl k =>
        refine ⟨k, r1, ?_⟩
        cases k with
        | false => exact endE hz L1 (hE.mono L1) S1 h1
        | true => exact h1 μ1 (.bl true) H1 L1 rfl S1
      | _ => exact h1.elim
theorem e_not (hz : ZMono Z) (ha : PE X xa (tE X.K Z r a)) : PE X (.UnaryOp .Not xa pos) (tE X.K Z (step P n r rc) (.not a)) :=
  impE (pe_not ha) fun σ H Q ⟨μ, env, st, hE, hS, h⟩ =>
    seqE hz hE hS h fun d st1 μ1 v H1 L1 r1 S1 h1 => by
      cases d with
      | bl k => exact ⟨k, r1, h1 μ1 (.bl (!k)) H1 L1 rfl S1⟩
      | _ => exact h1.elim
theorem e_ifx (hz : ZMono Z) (hc : PT X xc (tT X.K Z r c)) (ha : PE X xa (tE X.K Z r a)) (hb : PE X xb (tE X.K Z r b)) : PE X (.IfExp xc xa xb pos) (tE X.K Z (step P n r rc) (.ifx c a b)) :=
  impE (pe_ifExp hc ha hb) fun σ H Q ⟨μ, env, st, hE, hS, h⟩ =>
    seqT hz hE hS h fun d st1 μ1 H1 L1 S1 h1 => by
      cases d with
      | true => exact endE hz L1 (hE.mono L1) S1 h1
      | false => exact endE hz L1 (hE.mono L1) S1 h1
/-! ### displays -/
theorem pe_tupX {es : List Expr} {t : TA} {k : Nat} (h : PA X es t) : PE X (.Tuple es k pos) (fun σ H Q => t σ H fun xs H1 => xs.length ≤ sizeLine ∧ ∀ its p, H1 p = none → Q (.ref p) (upd H1 p (.frz (tupO its) (.tup xs)))) := by
  refine ⟨fun pins s σ H Q I hq => ?_⟩
  refine wpAny_Tuple_spliced (thn (h.run pos pins s σ H _ I hq) fun us s1 ⟨xs, H1, I1, r, z, q⟩ => ⟨by rw [← r.length]; exact z, ?_⟩)
  exact ⟨.ref s1.heap.objs.size, _, tup_push (tk := s1.toks) I1 r z, rfl, q _ _ (I1.hok.fresh (Nat.le_refl _))⟩
theorem e_tup {es : List Expr} {k : Nat} (hz : ZMono Z) (ha : PA X es (tEs X.K Z r a)) : PE X (.Tuple es k pos) (tE X.K Z (step P n r rc) (.tup a)) :=
  impE (pe_tupX ha) fun σ H Q ⟨μ, env, st, hE, hS, h⟩ =>
    seqA hz hE hS h fun ds st1 μ1 vs H1 L1 r1 S1 h1 => by
      obtain ⟨hs, p⟩ := pst_ite h1
      have g := RepL.iff.mp r1
      exact ⟨by rw [← g.length]; exact small_iff hs, fun its q hq => (Post.mono (show Post X.K μ H (.tup ds) st1 Q from p) L1).tup S1 g q hq⟩
theorem e_lst {es : List Expr} (hz : ZMono Z) (ha : PA X es (tEs X.K Z r a)) : PE X (.List es pos) (tE X.K Z (step P n r rc) (.lst a)) :=
  impE (pe_lst ha) fun σ H Q ⟨μ, env, st, hE, hS, h⟩ =>
    seqA hz hE hS h fun ds st1 μ1 vs H1 L1 r1 S1 h1 => by
      obtain ⟨hs, p⟩ := pst_ite h1
      have g := RepL.iff.mp r1
      exact ⟨by rw [← g.length]; exact small_iff hs, (Post.mono (show Post X.K μ H (.ref st1.length) (st1 ++ [.lst ds]) Q from p) L1).lay S1 (fun z => z) (obj_lst S1 g)⟩
theorem Post.layP {K : PySem.W.Frag} {μ : List Addr} {H : Hp} {st : Sto} {Q : VK} (S : StR K μ H st) {o : O} {ho : HO} (p : Post K μ H (.ref st.length) (st ++ [o]) Q) {q : Addr} (hq : H q = none) (r : ObjR K (μ ++ [q]) (upd H q ho) q o) : Q (.ref q) (upd H q ho) := by
  refine p (μ ++ [q]) (.ref q) (upd H q ho) (le_lay S hq ho) ?_ (S.lay hq r)
  refine ⟨q, ?_, rfl⟩
  rw [List.getElem?_append_right (by rw [S.len]; exact Nat.le_refl _), S.len, Nat.sub_self]
  rfl
theorem e_dic0 {k : Bool} : PE X (.Dict [] [] pos) (tE X.K Z (step P n r rc) (.dic k)) := by
  cases k with
  | false =>
    exact impE pe_dnewK fun σ H Q ⟨μ, env, st, hE, hS, h⟩ => by
      have p : Post X.K μ H (.ref st.length) (st ++ [.dct []]) Q := h
      exact p.lay (o := .dct []) (ho := .dK []) hS (fun z => z) fun q hq => (⟨[], upd_same, .nil⟩ : ∃ l, upd H q (HO.dK []) q = some (HO.dK l) ∧ KVR X.K (μ ++ [q]) (upd H q (HO.dK [])) [] l)
  | true =>
    refine ⟨fun pins s σ H Q I ⟨μ, env, st, hE, hS, h⟩ => t_new I fun p s' hp I1 => ?_⟩
    have pp : Post X.K μ H (.ref st.length) (st ++ [.dcT []]) Q := h
    exact ⟨.ref p, _, I1, rfl, pp.layP (o := .dcT []) hS hp (⟨[], upd_same, .nil⟩ : ∃ l, upd H p (.ext (TDp p [])) p = some (.ext (TDp p l)) ∧ KVT X.K (μ ++ [p]) (upd H p (.ext (TDp p []))) [] l)⟩
/-- a thing laid ahead of its parts, and put into the store behind them -/
theorem late_new {K : PySem.W.Frag} {μ μ2 : List Addr} {H H2 : Hp} {st st2 : Sto} {p : Addr} {u u2 : HO} {o : O} (S : StR K μ H st) (hp : H p = none) (ni : ¬ Imm u) (L : Le μ (upd H p u) μ2 H2) (S2 : StR K μ2 H2 st2)
    (r : (∀ a x, H2 a = some x → Imm x → upd H2 p u2 a = some x) → (∀ (l : Nat) (a : Addr), μ2[l]? = some a → (μ2 ++ [p])[l]? = some a) → ObjR K (μ2 ++ [p]) (upd H2 p u2) p o) {Q : VK} (q : Post K μ H (.ref st2.length) (st2 ++ [o]) Q) : H2 p = some u ∧ Q (.ref p) (upd H2 p u2) := by
  have hn := S.fresh hp
  have h2 := L.kp p u upd_same hn
  have hn2 : p ∉ μ2 := fun m => by
    have := L.nw p m hn
    rw [upd_same] at this
    cases this
  refine ⟨h2, ?_⟩
  have L0 := (le_new S hp u).trans L
  have pre : ∀ (l : Nat) (a : Addr), μ2[l]? = some a → (μ2 ++ [p])[l]? = some a := fun l a e => by
    rw [List.getElem?_append_left (List.getElem?_eq_some_iff.mp e).1]
    exact e
  refine q (μ2 ++ [p]) (.ref p) _ ((L0.out hp u2).add hp) ⟨p, ?_, rfl⟩ ((S2.out h2 ni hn2 u2).add hn2 (r (im_out h2 ni u2) pre))
  rw [List.getElem?_append_right (by rw [S2.len]; exact Nat.le_refl _), S2.len, Nat.sub_self]
  rfl
theorem e_dc1 {k : Bool} (hu : X.A.units + 200 < cLine) (hz : ZMono Z) (ha : PE X xa (tE X.K Z r a)) (hb : PE X xb (tE X.K Z r b)) : PE X (.Dict [some xa] [xb] pos) (tE X.K Z (step P n r rc) (.dc1 k a b)) := by
  cases k with
  | true =>
    refine impE (pe_disp1 (by omega) ha hb) fun σ H Q ⟨μ, env, st, hE, hS, h⟩ p hp => ?_
    have h : ((r.e a env st).bind fun x st => (r.e b env st).bind fun y st => dicV true x y st).pst (fun d st' => Post X.K μ H d st' Q) (Z μ H) := h
    have L0 := le_new hS hp (.ext (TDp p []))
    refine seqE hz (hE.mono L0) (hS.new hp _) (pst_mono h (fun _ _ z => z) fun _ _ z => hz _ _ _ _ _ _ L0 z) fun d st1 μ1 v H1 L1 r1 S1 h1 => seqE hz ((hE.mono L0).mono L1) S1 h1 fun d2 st2 μ2 v2 H2 L2 r2 S2 h2 => ?_
    obtain ⟨hk, h2⟩ := pst_ite (show (if D.isInts d = true then new (.dcT [(d, d2)]) st2 else R.no).pst (fun d st' => Post X.K μ H d st' Q) (Z μ2 H2) from h2)
    obtain ⟨ks, rfl⟩ := isInts_ok hk
    obtain ⟨c, its, rfl, hc⟩ := rep_ints (r1.mono L2)
    have := late_new (u := .ext (TDp p [])) (o := .dcT [(.tup (ks.map D.int), d2)]) (u2 := .ext (TDp p [(ks, c, v2)])) hS hp (fun z => z) (L1.trans L2) S2 (fun im pre => ⟨_, upd_same, .cons ⟨rfl, ⟨its, im _ _ hc trivial⟩, r2.mono0 pre im⟩ .nil⟩) h2
    exact ⟨this.1, c, ks, rfl, .inr ⟨_, hc⟩, this.2⟩
  | false =>
    refine impE (pe_disp (pps_cons ha hb pps_nil) rfl rfl (by simp) (by show 1 ≤ 15; decide)) fun σ H Q ⟨μ, env, st, hE, hS, h⟩ p hp => ?_
    have h : ((r.e a env st).bind fun x st => (r.e b env st).bind fun y st => dicV false x y st).pst (fun d st' => Post X.K μ H d st' Q) (Z μ H) := h
    have L0 := le_new hS hp (.dK [])
    refine seqE hz (hE.mono L0) (hS.new hp _) (pst_mono h (fun _ _ z => z) fun _ _ z => hz _ _ _ _ _ _ L0 z) fun d st1 μ1 v H1 L1 r1 S1 h1 => seqE hz ((hE.mono L0).mono L1) S1 h1 fun d2 st2 μ2 v2 H2 L2 r2 S2 h2 => ?_
    obtain ⟨hk, h2⟩ := pst_ite (show (if D.simple d = true then new (.dct [(d, d2)]) st2 else R.no).pst (fun d st' => Post X.K μ H d st' Q) (Z μ2 H2) from h2)
    obtain ⟨key, rfl⟩ := simple_kD hk
    have := late_new (u := .dK []) (o := .dct [(kD key, d2)]) (u2 := .dK [(key, v2)]) hS hp (fun z => z) (L1.trans L2) S2 (fun im pre => ⟨_, upd_same, .cons ⟨rfl, r2.mono0 pre im⟩ .nil⟩) h2
    exact ⟨this.1, [(key, v2)], by rw [rep_kD r1]; rfl, by show 1 ≤ 15; decide, this.2⟩
/-! ### items, slices -/
def plIx : Expr → Bool
  | .Slice .. => false
  | .Constant .. => false
  | .Tuple .. => false
  | _ => true
theorem e_idx (hu : X.A.units + 200 < cLine) (hz : ZMono Z) (ha : PE X xa (tE X.K Z r a)) (hb : PE X xb (tE X.K Z r b)) (hp : PlainIx xb) : PE X (.Subscript xa xb pos) (tE X.K Z (step P n r rc) (.idx a b)) :=
  impE (pe_ix (ix_all hu) ha hb hp) fun σ H Q ⟨μ, env, st, hE, hS, h⟩ =>
    seqE hz hE hS h fun d st1 μ1 v H1 L1 r1 S1 h1 => seqE hz (hE.mono L1) S1 h1 fun d2 st2 μ2 v2 H2 L2 r2 S2 h2 => by
      obtain ⟨d3, st3, e, q⟩ := pst_val h2
      exact ⟨μ2, d, d2, st2, d3, st3, S2, r1.mono L2, r2, e, q.mono (L1.trans L2)⟩
/-- a slice's part -/
def tO (K : PySem.W.Frag) (Z : ZT) (r : Ev) (e : E) : TO := fun σ H Q => ∃ μ env st, EnvR K μ H env σ ∧ StR K μ H st ∧ (opt r.e e env st).pst (fun o st' => ∀ μ' H', Le μ H μ' H' → StR K μ' H' st' → Q o H') (Z μ H)
theorem o_none : PO X none (tO X.K Z r .none) := ⟨fun pins s σ H Q I ⟨μ, env, st, hE, hS, h⟩ => po_none.run pins s σ H Q I (h μ H .refl hS)⟩
theorem o_some (hz : ZMono Z) (h : PE X xa (tE X.K Z r a)) (hn : a ≠ .none) : PO X (some xa) (tO X.K Z r a) := ⟨fun pins s σ H Q I ⟨μ, env, st, hE, hS, q⟩ => by
  refine (po_some h).run pins s σ H Q I ?_
  have q : ((r.e a env st).bind fun d st => match d with | .int i => R.ok (some i) st | _ => .no).pst (fun o st' => ∀ μ' H', Le μ H μ' H' → StR X.K μ' H' st' → Q o H') (Z μ H) := by
    cases a <;> first | exact (hn rfl).elim | exact q
  exact seqE hz hE hS q fun d st1 μ1 v H1 L1 r1 S1 h1 => by
    cases d with
    | int i => exact ⟨i, r1, h1 μ1 H1 L1 S1⟩
    | _ => exact h1.elim⟩
theorem seqO {K : PySem.W.Frag} {μ : List Addr} {H : Hp} {env : Env} {σ : L2.St} {st : Sto} {β : Type} {A : β → Sto → Prop} {e : E} (hz : ZMono Z) (hE : EnvR K μ H env σ) (hS : StR K μ H st) {f : Option Int → Sto → R β} (h : ((opt r.e e env st).bind f).pst A (Z μ H)) {Q : Option Int → Hp → Prop}
    (k : ∀ d st1 μ1 H1, Le μ H μ1 H1 → StR K μ1 H1 st1 → (f d st1).pst A (Z μ1 H1) → Q d H1) : tO K Z r e σ H Q :=
  ⟨μ, env, st, hE, hS, pst_mono (pst_bind h) (fun d st1 q μ1 H1 L S => k d st1 μ1 H1 L S (pst_mono q (fun _ _ z => z) fun _ _ z => hz _ _ _ _ _ _ L z)) fun _ _ z => z⟩
theorem e_slc {lo hi : Option Expr} {p2 : Pos} (hz : ZMono Z) (ha : PE X xa (tE X.K Z r a)) (hl : PO X lo (tO X.K Z r b)) (hh : PO X hi (tO X.K Z r c)) : PE X (.Subscript xa (.Slice lo hi none p2) pos) (tE X.K Z (step P n r rc) (.slc a b c)) :=
  impE (pe_slice sl_all ha hl hh) fun σ H Q ⟨μ, env, st, hE, hS, h⟩ =>
    seqE hz hE hS h fun d st1 μ1 v H1 L1 r1 S1 h1 => seqO hz (hE.mono L1) S1 h1 fun o st2 μ2 H2 L2 S2 h2 => seqO hz ((hE.mono L1).mono L2) S2 h2 fun o' st3 μ3 H3 L3 S3 h3 => by
      obtain ⟨d3, st4, e, q⟩ := pst_val h3
      exact ⟨μ3, d, st3, d3, st4, S3, (r1.mono L2).mono L3, e, q.mono ((L1.trans L2).trans L3)⟩
theorem e_rev {k : Nat} {p1 p2 p3 : Pos} (hz : ZMono Z) (ha : PE X xa (tE X.K Z r a)) : PE X (.Subscript xa (.Slice none none (some (.UnaryOp .USub (.Constant (.int 1) k p1) p2)) p3) pos) (tE X.K Z (step P n r rc) (.rev a)) :=
  impE (pe_revA ha) fun σ H Q ⟨μ, env, st, hE, hS, h⟩ =>
    seqE hz hE hS h fun d st1 μ1 v H1 L1 r1 S1 h1 => by
      cases d with
      | ref l =>
        obtain ⟨a, ha, rfl⟩ := r1
        have h1 : (match sget st1 l with | some (.lst xs) => new (.lst xs.reverse) st1 | _ => R.no).pst (fun d st' => Post X.K μ H d st' Q) (Z μ1 H1) := h1
        cases e1 : sget st1 l with
        | none => rw [e1] at h1; exact h1.elim
        | some o =>
          rw [e1] at h1
          cases o with
          | lst xs =>
            obtain ⟨ws, h2, hv⟩ := S1.lst ha e1
            exact ⟨a, ws, rfl, .inl ⟨.inl (.inl h2), (Post.mono (show Post X.K μ H (.ref st1.length) (st1 ++ [.lst xs.reverse]) Q from h1) L1).lay S1 (fun z => z) (obj_lst S1 (Pr.rev hv))⟩⟩
          | _ => exact h1.elim
      | tup xs =>
        obtain ⟨a, vs, its, rfl, ha, hv⟩ := r1
        exact ⟨a, vs, rfl, .inr ⟨.inl (.inr ⟨_, ha⟩), fun its p hp => (Post.mono (show Post X.K μ H (.tup xs.reverse) st1 Q from h1) L1).tup S1 (Pr.rev (RepL.iff.mp hv)) p hp⟩⟩
      | _ => exact h1.elim
/-! ### tests -/
def tst : Expr → Bool
  | .BoolOp .. | .IfExp .. | .Compare .. => false
  | .UnaryOp .Not _ _ => false
  | _ => true
theorem tst_ok {x : Expr} {env : PySem.Env} (h : tst x = true) : ∀ whole, isTrue x env whole = (do let v ← whole; standAt x.pos; holding [v] (truthy v)) := by
  intro whole
  cases x <;> first | rfl | (exact absurd h Bool.false_ne_true) | skip
  rename_i op a p
  cases op <;> first | rfl | exact absurd h Bool.false_ne_true
theorem pt_tru {t : TE} (ha : PE X xa t) (he : tst xa = true) : PT X xa (fun σ H Q => t σ H fun x H' => vTru X.K x H' Q) := by
  refine ⟨fun pins s σ H Q I h => ?_⟩
  exact PyProof.Rows.isTrue_plain (thn (ha.run pins s σ H _ I h) fun v s1 ⟨x, H1, I1, r1, q1⟩ => tru_all pins s1 σ H1 x v Q I1 r1 q1) (tst_ok he _)
end
end Ev
end

section
set_option Elab.async false
set_option linter.all false
set_option maxRecDepth 100000
set_option maxHeartbeats 2000000
/-! Snd8: built-ins. -/
namespace Ev
open PySem PySem.Spec L2
section
variable {K : PySem.W.Frag} {μ : List Addr} {H : Hp} {st : Sto}
theorem rl1 {d : D} {xs : List V} (h : RepL K μ H [d] xs) : ∃ x, xs = [x] ∧ Rep K μ H d x := by
  obtain ⟨v, r, rfl, h1, h2⟩ := h
  cases (show r = [] from h2)
  exact ⟨v, rfl, h1⟩
theorem rl2 {d e : D} {xs : List V} (h : RepL K μ H [d, e] xs) : ∃ x y, xs = [x, y] ∧ Rep K μ H d x ∧ Rep K μ H e y := by
  obtain ⟨v, r, rfl, h1, h2⟩ := h
  obtain ⟨y, rfl, h3⟩ := rl1 h2
  exact ⟨v, y, rfl, h1, h3⟩
theorem rl3 {d e f : D} {xs : List V} (h : RepL K μ H [d, e, f] xs) : ∃ x y z, xs = [x, y, z] ∧ Rep K μ H d x ∧ Rep K μ H e y ∧ Rep K μ H f z := by
  obtain ⟨v, r, rfl, h1, h2⟩ := h
  obtain ⟨y, z, rfl, h3, h4⟩ := rl2 h2
  exact ⟨v, y, z, rfl, h1, h3, h4⟩
/-- a row that is read: a list or a tuple -/
theorem row_of (S : StR K μ H st) {d : D} {x : V} {xs : List D} (r : Rep K μ H d x) (h : rowOf d st = some xs) : ∃ a vs, x = .ref a ∧ Paired (Rep K μ H) xs vs ∧ ((∃ l, d = .ref l ∧ H a = some (.lst vs)) ∨ (d = .tup xs ∧ ∃ its, H a = some (.frz (tupO its) (.tup vs)))) := by
  cases d with
  | tup ys =>
    cases (show some ys = some xs from h)
    obtain ⟨a, vs, its, e, ha, hv⟩ := r
    exact ⟨a, vs, e, RepL.iff.mp hv, .inr ⟨rfl, its, ha⟩⟩
  | ref l =>
    obtain ⟨a, ha, rfl⟩ := r
    simp only [rowOf] at h
    cases e : sget st l with
    | none => rw [e] at h; cases h
    | some o =>
      rw [e] at h
      cases o with
      | lst ys =>
        cases (show some ys = some xs from h)
        obtain ⟨vs, h1, h2⟩ := S.lst ha e
        exact ⟨a, vs, rfl, h2, .inl ⟨l, rfl, h1⟩⟩
      | _ => cases h
  | _ => cases h
end
def twos : Blt → Bool
  | .max | .min | .gcd | .lcm => true
  | _ => false
theorem blt2_no {b : Blt} (h : twos b = false) (d e : D) (st : Sto) : blt2 b d e st = .no := by
  cases d <;> try rfl
  cases e <;> try rfl
  cases b <;> first | rfl | cases h
theorem one_arg {b : Blt} {ds : List D} {st st' : Sto} {d : D} (hb : twos b = false) (h : bltA b ds st = .ok d st') : ∃ d0, ds = [d0] := by
  unfold bltA at h
  match ds, h with
  | [], h => cases hw : walks b <;> rw [hw] at h <;> cases h
  | [d0], _ => exact ⟨d0, rfl⟩
  | x :: y :: r, h =>
    cases hw : walks b with
    | true => rw [hw] at h; cases h
    | false =>
      rw [hw] at h
      have h : (match r with | [] => blt2 b x y st | _ :: _ => R.no) = .ok d st' := h
      cases r with
      | nil => rw [show (match ([] : List D) with | [] => blt2 b x y st | _ :: _ => R.no) = blt2 b x y st from rfl, blt2_no hb] at h; cases h
      | cons _ _ => cases h
def vBlt (K : PySem.W.Frag) (b : Blt) : List V → Hp → VK → Prop := fun xs H Q => ∃ μ ds st d st', StR K μ H st ∧ RepL K μ H ds xs ∧ bltA b ds st = .ok d st' ∧ Post K μ H d st' Q
section
variable {X : Cx}
theorem cr_len : CallR X (.builtin "len") (vBlt X.K .len) := by
  intro pins s σ H xs us Q I r ⟨μ, ds, st, d, st', S, rd, h, p⟩
  obtain ⟨d0, rfl⟩ := one_arg rfl h
  · obtain ⟨x, rfl, r1⟩ := rl1 rd
    have h : (match lenR d0 st with | some n => R.ok (D.int n) st | none => R.no) = .ok d st' := h
    cases e : lenR d0 st with
    | none => rw [e] at h; cases h
    | some n =>
      rw [e] at h
      cases h
      cases d0 with
      | tup ys =>
        cases (show some ys.length = some n from e)
        obtain ⟨a, vs, its, rfl, ha, hv⟩ := r1
        refine call_len pins s σ H _ us Q I r ⟨.ref a, _, rfl, .inr ⟨vs, .inl (.inr ⟨_, ha⟩), rfl⟩, ?_⟩
        rw [← (RepL.iff.mp hv).length]
        exact p.int S
      | str z =>
        cases (show x = .str z from r1)
        obtain ⟨hz, e⟩ := ifO (show (if small z.length = true then some z.length else none) = some n from e)
        cases e
        exact call_len pins s σ H _ us Q I r ⟨.str z, _, rfl, ⟨small_iff hz, rfl⟩, p.int S⟩
      | ref l =>
        obtain ⟨a, ha, rfl⟩ := r1
        simp only [lenR] at e
        cases e1 : sget st l with
        | none => rw [e1] at e; cases e
        | some o =>
          rw [e1] at e
          cases o with
          | lst ys =>
            cases (show some ys.length = some n from e)
            obtain ⟨vs, h1, hv⟩ := S.lst ha e1
            refine call_len pins s σ H _ us Q I r ⟨.ref a, _, rfl, .inl ⟨vs, .inl (.inl h1), rfl⟩, ?_⟩
            rw [← hv.length]
            exact p.int S
          | dct kvs =>
            cases (show some kvs.length = some n from e)
            obtain ⟨l', h1, h2⟩ := (show ∃ l, H a = some (.dK l) ∧ KVR X.K μ H kvs l from S.at_ ha e1)
            refine call_lenD pins s σ H _ us Q I r ⟨a, l', rfl, h1, ?_⟩
            rw [← h2.length]
            exact p.int S
          | _ => cases e
      | rol ns =>
        cases (show some ns.length = some n from e)
        obtain ⟨a, rfl, ha⟩ := r1
        refine call_len pins s σ H _ us Q I r ⟨.ref a, _, rfl, .inl ⟨ns.map V.int, ha.seq, rfl⟩, ?_⟩
        rw [List.length_map]
        exact p.int S
      | _ => cases e
theorem cr_tuple : CallR X (.type "tuple") (vBlt X.K .tuple) := by
  intro pins s σ H xs us Q I r ⟨μ, ds, st, d, st', S, rd, h, p⟩
  obtain ⟨d0, rfl⟩ := one_arg rfl h
  · obtain ⟨x, rfl, r1⟩ := rl1 rd
    have h : (match rowOf d0 st with | some xs => bltI .tuple xs st | none => .no) = .ok d st' := h
    cases e : rowOf d0 st with
    | none => rw [e] at h; cases h
    | some ys =>
      rw [e] at h
      obtain ⟨hz, h⟩ := ite_ok (show (if small ys.length = true then R.ok (D.tup ys) st else R.no) = .ok d st' from h)
      cases h
      obtain ⟨a, vs, rfl, hv, hc⟩ := row_of S r1 e
      obtain ⟨u, rfl, rx⟩ := vals1 r
      cases rx
      rcases hc with ⟨l, rfl, ha⟩ | ⟨rfl, its, ha⟩
      · obtain ⟨its, r', pl, hz'⟩ := I.list (.inl (.inl ha))
        have hlen := r'.length
        refine call_tuple_list pl.isList (fun h' kp => ?_) (by simp only [List.size_toArray] <;> omega)
        have I1 : Inv X pins σ H { s with heap := h' } := I.kept (t' := s.toks) kp
        exact tup_end (tk := s.toks) I1 S hv r' hz' p
      · obtain ⟨its', r', pl, hz'⟩ := I.tuple (.inl (.inr ⟨_, ha⟩))
        exact call_tuple_same pl ⟨.ref a, H, I, rfl, p.here S r1⟩
theorem cr_list : CallR X (.type "list") (vBlt X.K .list) := by
  intro pins s σ H xs us Q I r ⟨μ, ds, st, d, st', S, rd, h, p⟩
  obtain ⟨d0, rfl⟩ := one_arg rfl h
  · obtain ⟨x, rfl, r1⟩ := rl1 rd
    have h : (match rowOf d0 st with | some xs => bltI .list xs st | none => .no) = .ok d st' := h
    cases e : rowOf d0 st with
    | none => rw [e] at h; cases h
    | some ys =>
      rw [e] at h
      obtain ⟨hz, h⟩ := ite_ok (show (if small ys.length = true then new (.lst ys) st else .no) = .ok d st' from h)
      obtain ⟨rfl, rfl⟩ := new_ok h
      obtain ⟨a, vs, rfl, hv, hc⟩ := row_of S r1 e
      refine call_list_of pins s σ H _ us Q I r ⟨a, vs, rfl, ?_, p.lay S (fun z => z) (obj_lst S hv)⟩
      rcases hc with ⟨l, rfl, ha⟩ | ⟨rfl, its, ha⟩
      · exact .inl (.inl (.inl ha))
      · exact .inr (.inl (.inr ⟨_, ha⟩))
theorem cr_abs : CallR X (.builtin "abs") (vBlt X.K .abs) := by
  intro pins s σ H xs us Q I r ⟨μ, ds, st, d, st', S, rd, h, p⟩
  obtain ⟨d0, rfl⟩ := one_arg rfl h
  · obtain ⟨x, rfl, r1⟩ := rl1 rd
    cases d0 with
    | int i =>
      cases (show x = .int i from r1)
      cases (show R.ok (D.int (if i < 0 then -i else i)) st = .ok d st' from h)
      exact call_abs pins s σ H _ us Q I r ⟨i, rfl, p.int S⟩
    | _ => cases h
theorem cr_ord : CallR X (.builtin "ord") (vBlt X.K .ord) := by
  intro pins s σ H xs us Q I r ⟨μ, ds, st, d, st', S, rd, h, p⟩
  obtain ⟨d0, rfl⟩ := one_arg rfl h
  · obtain ⟨x, rfl, r1⟩ := rl1 rd
    cases d0 with
    | str z =>
      cases (show x = .str z from r1)
      have h : (match z.cps.toList with | [c] => R.ok (D.int c) st | _ => .no) = .ok d st' := h
      obtain ⟨⟨l⟩⟩ := z
      match l, h with
      | [], h => cases h
      | [c], h =>
        cases h
        exact call_ord pins s σ H _ us Q I r ⟨_, rfl, rfl, p.int S⟩
      | _ :: _ :: _, h => cases h
    | _ => cases h
theorem cr_str : CallR X (.type "str") (vBlt X.K .str) := by
  intro pins s σ H xs us Q I r ⟨μ, ds, st, d, st', S, rd, h, p⟩
  obtain ⟨d0, rfl⟩ := one_arg rfl h
  · obtain ⟨x, rfl, r1⟩ := rl1 rd
    cases d0 with
    | int i =>
      cases (show x = .int i from r1)
      obtain ⟨hb, h⟩ := ite_ok (show (if Nat.blt i.natAbs.log2 1920 = true then R.ok (D.str (Str.ofString (toString i))) st else .no) = .ok d st' from h)
      cases h
      exact call_str_int pins s σ H _ us Q I r ⟨i, rfl, Nat.blt_eq.mp hb, p.str S⟩
    | _ => cases h
end
end Ev
end

section
set_option Elab.async false
set_option linter.all false
set_option maxRecDepth 100000
set_option maxHeartbeats 2000000
/-! Snd9: int, isinstance, methods, replacing. -/
namespace Ev
open PySem PySem.Spec L2
theorem digs_ok : ∀ (l : List Nat) (n m : Nat), digs l n = some m → NumText.AllDigits l ∧ l.foldl (fun acc c => acc * 10 + (c - 48)) n = m
  | [], n, m, h => by
    cases h
    exact ⟨fun c hc => (by simp at hc), rfl⟩
  | c :: r, n, m, h => by
    unfold digs at h
    obtain ⟨hc, h⟩ := ifO (show (if (Nat.ble 48 c && Nat.ble c 57) = true then digs r (n * 10 + (c - 48)) else none) = some m from h)
    obtain ⟨h1, h2⟩ := b_and hc
    obtain ⟨i1, i2⟩ := digs_ok r _ _ h
    refine ⟨fun d hd => ?_, i2⟩
    rcases List.mem_cons.mp hd with rfl | hd
    · exact ⟨Nat.ble_eq.mp h1, Nat.ble_eq.mp h2⟩
    · exact i1 d hd
theorem intOf_ok {z : Str} {n : Int} (h : intOf z.cps.toList = some n) (hz : z.length ≤ 640) : PySem.intText? z = some n := by
  cases e : z.cps.toList with
  | nil => rw [e] at h; cases h
  | cons c r =>
    rw [e] at h
    have h : (if (c == 45) = true then negOf r else posOf (c :: r)) = some n := h
    cases hc : c == 45 with
    | true =>
      rw [hc, if_pos rfl] at h
      have hc := eq_of_beq hc
      subst hc
      cases r with
      | nil => cases h
      | cons a r =>
        have h : (match digs (a :: r) 0 with | some n => some (-(n : Int)) | none => none) = some n := h
        cases e2 : digs (a :: r) 0 with
        | none => rw [e2] at h; cases h
        | some m =>
          rw [e2] at h
          cases h
          obtain ⟨h1, h2⟩ := digs_ok _ _ _ e2
          rw [PySem.intText_neg e h1 (by simp) (by omega), ← h2]
          rfl
    | false =>
      rw [hc, if_neg (by decide)] at h
      have h : (match digs (c :: r) 0 with | some n => some (n : Int) | none => none) = some n := h
      cases e2 : digs (c :: r) 0 with
      | none => rw [e2] at h; cases h
      | some m =>
        rw [e2] at h
        cases h
        obtain ⟨h1, h2⟩ := digs_ok _ _ _ e2
        rw [PySem.intText_digits (by rw [e]; exact h1) (by rw [e]; simp) (by omega), e, ← h2]
        rfl
section
variable {X : Cx}
theorem cr_int : CallR X (.type "int") (vBlt X.K .int) := by
  intro pins s σ H xs us Q I r ⟨μ, ds, st, d, st', S, rd, h, p⟩
  obtain ⟨d0, rfl⟩ := one_arg rfl h
  obtain ⟨x, rfl, r1⟩ := rl1 rd
  cases d0 with
  | int i =>
    cases (show x = .int i from r1)
    cases (show R.ok (D.int i) st = .ok d st' from h)
    exact call_int1 pins s σ H _ us Q I r (.inl ⟨i, rfl, p.int S⟩)
  | bl b =>
    cases (show x = .bl b from r1)
    cases (show R.ok (D.int (if b then 1 else 0)) st = .ok d st' from h)
    exact call_int1 pins s σ H _ us Q I r (.inr ⟨b, rfl, p.int S⟩)
  | str z =>
    cases (show x = .str z from r1)
    obtain ⟨hz, h⟩ := ite_ok (show (if Nat.ble z.length 640 = true then (match intOf z.cps.toList with | some n => R.ok (D.int n) st | none => R.no) else R.no) = .ok d st' from h)
    have hz := Nat.ble_eq.mp hz
    cases e : intOf z.cps.toList with
    | none => rw [e] at h; cases h
    | some n =>
      rw [e] at h
      cases h
      exact call_int_str pins s σ H _ us Q I r ⟨z, n, rfl, intOf_ok e hz, hz, p.int S⟩
  | _ => cases h
theorem two_args {b : Blt} {ds : List D} {st st' : Sto} {d : D} (hw : walks b = false) (h1 : blt1 b (ds.headD .non) st = .no) (hm : b ≠ .max) (hm' : b ≠ .min) (h : bltA b ds st = .ok d st') : ∃ d0 d1, ds = [d0, d1] ∧ blt2 b d0 d1 st = .ok d st' := by
  unfold bltA at h
  rw [hw] at h
  match ds, h, h1 with
  | [], h, _ => cases h
  | [d0], h, h1 =>
    have h : bltV b [d0] st = .ok d st' := by cases b <;> first | exact h | exact absurd rfl hm | exact absurd rfl hm'
    have h : blt1 b d0 st = .ok d st' := h
    rw [show blt1 b d0 st = .no from h1] at h
    cases h
  | [d0, d1], h, _ => exact ⟨d0, d1, rfl, h⟩
  | _ :: _ :: _ :: _, h, _ => cases h
/-! ### isinstance -/
def tyN : Ty → String
  | .int => "int"
  | .str => "str"
  | .tuple => "tuple"
  | .bool => "bool"
  | .list => "list"
def kindT (d : D) (st : Sto) : Option String := match d with
  | .non => some "NoneType"
  | .bl _ => some "bool"
  | .int _ => some "int"
  | .str _ => some "str"
  | .tup _ => some "tuple"
  | .ref l => (match sget st l with
    | some (.lst _) => some "list"
    | some (.dct _) => some "dict"
    | _ => none)
  | _ => none
def tyB (a : String) (t : Ty) : Bool := match t with
  | .int => a == "int" || a == "bool"
  | .str => a == "str"
  | .tuple => a == "tuple"
  | .bool => a == "bool"
  | .list => a == "list"
theorem isTy_kind {t : Ty} {d : D} {st : Sto} {b : Bool} (h : isTy t d st = some b) : ∃ a, kindT d st = some a ∧ a ∈ ["NoneType", "bool", "int", "str", "tuple", "list", "dict"] ∧ b = tyB a t := by
  cases d with
  | non => cases h; exact ⟨_, rfl, by simp, by cases t <;> rfl⟩
  | bl _ => cases h; exact ⟨_, rfl, by simp, by cases t <;> rfl⟩
  | int _ => cases h; exact ⟨_, rfl, by simp, by cases t <;> rfl⟩
  | str _ => cases h; exact ⟨_, rfl, by simp, by cases t <;> rfl⟩
  | tup _ => cases h; exact ⟨_, rfl, by simp, by cases t <;> rfl⟩
  | ref l =>
    simp only [isTy] at h
    simp only [kindT]
    cases e : sget st l with
    | none => rw [e] at h; cases h
    | some o =>
      rw [e] at h
      cases o with
      | lst _ => cases h; exact ⟨_, rfl, by simp, by cases t <;> rfl⟩
      | dct _ => cases h; exact ⟨_, rfl, by simp, by cases t <;> rfl⟩
      | _ => cases h
  | _ => cases h
theorem kit_all {K : PySem.W.Frag} {a : String} (ha : a ∈ ["NoneType", "bool", "int", "str", "tuple", "list", "dict"]) (t : Ty) : PySem.W.kitOne K (.type a) (.type (tyN t)) = some (tyB a t) := by
  simp only [List.mem_cons, List.not_mem_nil, or_false] at ha
  rcases ha with rfl | rfl | rfl | rfl | rfl | rfl | rfl <;> cases t <;> exact kit_ty (by decide +kernel)
theorem rep_ty {K : PySem.W.Frag} {μ : List Addr} {H : Hp} {st : Sto} (S : StR K μ H st) {d : D} {x : V} (r : Rep K μ H d x) {a : String} (h : kindT d st = some a) : TyX K H x (.type a) := by
  cases d with
  | non => cases h; cases (show x = .non from r); exact .base .non
  | bl b => cases h; cases (show x = .bl b from r); exact .base (.bl b)
  | int b => cases h; cases (show x = .int b from r); exact .base (.int b)
  | str b => cases h; cases (show x = .str b from r); exact .base (.str b)
  | tup b =>
    cases h
    obtain ⟨a, vs, its, rfl, ha, hv⟩ := r
    exact .fTuple ha
  | ref l =>
    obtain ⟨a, ha, rfl⟩ := r
    simp only [kindT] at h
    cases e : sget st l with
    | none => rw [e] at h; cases h
    | some o =>
      rw [e] at h
      cases o with
      | lst _ =>
        cases h
        obtain ⟨vs, h1, _⟩ := S.lst ha e
        exact .base (.lst h1)
      | dct kvs =>
        cases h
        obtain ⟨l', h1, h2⟩ := (show ∃ l, H a = some (.dK l) ∧ KVR K μ H kvs l from S.at_ ha e)
        exact .base (.dK h1)
      | _ => cases h
  | _ => cases h
end
/-! ### find -/
theorem findC_spec (c : Nat) : ∀ (l : List Nat) (k : Nat), (findC c l k = -1 ∧ ∀ i : Nat, l[i]? ≠ some c) ∨ ∃ i : Nat, findC c l k = ((k + i : Nat) : Int) ∧ l[i]? = some c ∧ ∀ j : Nat, j < i → l[j]? ≠ some c
  | [], k => .inl ⟨rfl, fun i => by simp⟩
  | x :: r, k => by
    unfold findC
    by_cases hx : x = c
    · subst hx
      rw [if_pos (by simp)]
      exact .inr ⟨0, by simp, by simp, fun j hj => by omega⟩
    · rw [if_neg (by simp [hx])]
      rcases findC_spec c r (k + 1) with ⟨h1, h2⟩ | ⟨i, h1, h2, h3⟩
      · refine .inl ⟨h1, fun i => ?_⟩
        cases i with
        | zero => simp [hx]
        | succ i => simpa using h2 i
      · refine .inr ⟨i + 1, by rw [h1]; congr 1; omega, by simpa using h2, fun j hj => ?_⟩
        cases j with
        | zero => simp [hx]
        | succ j => simpa using h3 j (by omega)
theorem at_one {x : Str} {c hi i : Nat} (hh : hi ≤ x.length) : StrLaws.At x ⟨#[c]⟩ hi i ↔ (i < hi ∧ x.cps.toList[i]? = some c) := by
  constructor
  · intro h
    have h1 : i + 1 ≤ hi := h.1
    exact ⟨by omega, (StrLaws.subAt_one x c i).mp ⟨by show i + 1 ≤ x.length; omega, h.2⟩⟩
  · intro h
    have h2 := (StrLaws.subAt_one x c i).mpr h.2
    exact ⟨by show i + 1 ≤ hi; omega, h2.2⟩
theorem occ_find (x : Str) (c lo hi : Nat) (hh : hi ≤ x.length) : (match Builtin.Str.occurrences x ⟨#[c]⟩ lo hi 1 with | k :: _ => (k : Int) | [] => -1) = findS x.cps.toList c lo hi := by
  have get : ∀ i, ((x.cps.toList.take hi).drop lo)[i]? = some c ↔ (lo + i < hi ∧ x.cps.toList[lo + i]? = some c) := fun i => by
    rw [List.getElem?_drop, List.getElem?_take]
    split
    · rename_i h; exact ⟨fun q => ⟨h, q⟩, fun q => q.2⟩
    · rename_i h; exact ⟨fun q => (nomatch q), fun q => absurd q.1 h⟩
  unfold findS
  rw [StrLaws.occ_eq]
  rcases StrLaws.occ_first x ⟨#[c]⟩ hi 1 (Nat.le_refl 1) (List.range' lo (hi + 1 - lo)) lo (fun i hi => by have := List.mem_range'_1.mp hi; omega) with ⟨h0, hn⟩ | ⟨pre, a, post, e, h0, ha, hn⟩
  · rw [h0]
    rcases findC_spec c ((x.cps.toList.take hi).drop lo) lo with ⟨h1, _⟩ | ⟨i, h1, h2, _⟩
    · exact h1.symm
    · obtain ⟨h3, h4⟩ := (get i).mp h2
      exact absurd ((at_one hh).mpr ⟨h3, h4⟩) (hn (lo + i) (by rw [List.mem_range'_1]; omega))
  · have hs := StrLaws.range'_split_from e
    generalize (forIn (List.range' lo (hi + 1 - lo)) ((#[] : Array Nat), lo) (StrLaws.occBody x ⟨#[c]⟩ hi 1)).run.fst = arr at h0
    have h1 : arr.toList[0]? = some a := by simpa using h0
    obtain ⟨a1, a2⟩ := (at_one hh).mp ha
    cases hL : arr.toList with
    | nil => rw [hL] at h1; cases h1
    | cons b t =>
      rw [hL] at h1
      simp at h1
      subst h1
      show (b : Int) = _
      rcases findC_spec c ((x.cps.toList.take hi).drop lo) lo with ⟨_, h2⟩ | ⟨i, h1, h2, h3⟩
      · exact absurd ((get (b - lo)).mpr ⟨by omega, by rw [show lo + (b - lo) = b by omega]; exact a2⟩) (h2 _)
      · rw [h1]
        obtain ⟨g1, g2⟩ := (get i).mp h2
        have l1 : ¬ lo + i < b := fun q => hn (lo + i) (hs.2 _ (by omega) q) ((at_one hh).mpr ⟨g1, g2⟩)
        have l2 : ¬ b < lo + i := fun q => h3 (b - lo) (by omega) ((get (b - lo)).mpr ⟨by omega, by rw [show lo + (b - lo) = b by omega]; exact a2⟩)
        congr 1
        omega
theorem clip_hi (n : Nat) (j : Int) : toIndexW n j = clip n j ∧ clip n j ≤ n := by
  unfold toIndexW clip
  cases j with
  | ofNat k =>
    have h0 : (0 : Int) ≤ Int.ofNat k := Int.natCast_nonneg k
    rw [if_neg (by omega)]
    show min (max 0 (Int.ofNat k)).toNat n = (if Nat.blt k n = true then k else n) ∧ (if Nat.blt k n = true then k else n) ≤ n
    have e : (max 0 (Int.ofNat k)).toNat = k := by
      rw [Int.max_eq_right h0]
      rfl
    rw [e]
    by_cases hk : k < n
    · rw [if_pos (Nat.blt_eq.mpr hk)]; omega
    · rw [if_neg (fun q => hk (Nat.blt_eq.mp q))]; omega
  | negSucc k =>
    rw [if_pos (Int.negSucc_lt_zero k)]
    show min (max 0 (Int.negSucc k + (n : Int))).toNat n = n - (k + 1) ∧ n - (k + 1) ≤ n
    omega
theorem findS_lo (s : List Nat) (c n : Nat) (i : Int) (hn : n = s.length) (hi : Nat) (hh : hi ≤ n) : findS s c (fromIndex n i) hi = findS s c (clip n i) hi := by
  unfold fromIndex clip
  cases i with
  | ofNat k =>
    have h0 : (0 : Int) ≤ Int.ofNat k := Int.natCast_nonneg k
    rw [if_neg (by omega)]
    have e : (max 0 (Int.ofNat k)).toNat = k := by
      rw [Int.max_eq_right h0]
      rfl
    rw [e]
    show findS s c k hi = findS s c (if Nat.blt k n = true then k else n) hi
    by_cases hk : k < n
    · rw [if_pos (Nat.blt_eq.mpr hk)]
    · rw [if_neg (fun q => hk (Nat.blt_eq.mp q))]
      unfold findS
      have e1 : (s.take hi).drop k = [] := by rw [List.drop_eq_nil_iff, List.length_take]; omega
      have e2 : (s.take hi).drop n = [] := by rw [List.drop_eq_nil_iff, List.length_take]; omega
      rw [e1, e2]
      rfl
  | negSucc k =>
    rw [if_pos (Int.negSucc_lt_zero k)]
    show findS s c (max 0 (Int.negSucc k + (n : Int))).toNat hi = findS s c (n - (k + 1)) hi
    congr 1
    omega
end Ev
end

section
set_option Elab.async false
set_option linter.all false
set_option maxRecDepth 100000
set_option maxHeartbeats 2000000
/-! Snd10: methods. -/
namespace Ev
open PySem PySem.Spec L2
def kdT : Kd → String
  | .str => "str"
  | .lst => "list"
  | .tup => "tuple"
  | .dct => "dict"
def mthN : Mth → String
  | .append => "append" | .extend => "extend" | .pop => "pop" | .index => "index" | .count => "count" | .items => "items" | .values => "values" | .keys => "keys" | .get => "get" | .setdefault => "setdefault"
  | .update => "update" | .join => "join" | .split => "split" | .replace => "replace" | .startswith => "startswith" | .find => "find" | .isascii => "isascii" | .isdigit => "isdigit" | .remove => "remove" | .insert => "insert"
def vMth (K : PySem.W.Frag) (k : Kd) (m : Mth) : V → List V → Hp → VK → Prop := fun x xs H Q => ∃ μ dx ds st d st', StR K μ H st ∧ Rep K μ H dx x ∧ RepL K μ H ds xs ∧ mthV k m dx ds st = .ok d st' ∧ Post K μ H d st' Q
section
variable {X : Cx} {pins : List (Addr × Obj)} {σ : L2.St} {H : Hp} {s : Shared} {μ : List Addr} {st : Sto}
theorem kd_is (I : Inv X pins σ H s) (S : StR X.K μ H st) {d : D} {x : V} {v : Value} (r : Rep X.K μ H d x) (rv : RelV x v) {k : Kd} (h : kdOf d st = some k) :
    s.TypeIs v (kdT k) ∧ ∀ a, v = .ref a → ∃ ob, s.heap.get? a = some ob ∧ ob.dict = none := by
  cases d with
  | str z =>
    cases h
    cases (show x = .str z from r)
    exact tyV_is I rv (show tyV X.K "str" (.str z) H from rfl)
  | tup ds =>
    cases h
    obtain ⟨a, vs, its, rfl, ha, _⟩ := r
    cases (show v = Value.ref a from rv)
    obtain ⟨e, _⟩ := I.hok a _ ha
    refine ⟨⟨_, e, rfl⟩, fun b eb => ?_⟩
    cases eb
    exact ⟨_, e, rfl⟩
  | ref l =>
    obtain ⟨a, ha, rfl⟩ := r
    simp only [kdOf] at h
    cases e : sget st l with
    | none => rw [e] at h; cases h
    | some o =>
      rw [e] at h
      cases o with
      | lst xs =>
        cases h
        obtain ⟨vs, h1, _⟩ := S.lst ha e
        exact tyV_is I rv (show tyV X.K "list" (.ref a) H from .inl ⟨rfl, vs, .inl (.inl h1)⟩)
      | dct kvs =>
        cases h
        obtain ⟨l', h1, _⟩ := (show ∃ l, H a = some (.dK l) ∧ KVR X.K μ H kvs l from S.at_ ha e)
        exact tyV_is I rv (show tyV X.K "dict" (.ref a) H from .inr (.inr (.inl ⟨rfl, .inl ⟨l', h1⟩⟩)))
      | dcT kvs =>
        cases h
        obtain ⟨l', h1, _⟩ := (show ∃ l, H a = some (.ext (TDp a l)) ∧ KVT X.K μ H kvs l from S.at_ ha e)
        cases (show v = Value.ref a from rv)
        obtain ⟨g1, g2, _⟩ := td_is I (.inl h1)
        exact ⟨g1, g2⟩
      | _ => cases h
  | _ => cases h
end
/-- the rule for a kind's method -/
def MthR (X : Cx) (k : Kd) (m : Mth) : Prop := ∃ id, PlainAttrs (kdT k) ∧ Slot (kdT k) (mthN m) id ∧ typeOf (.builtin id) = pure (.type "method_descriptor") ∧ MtR X id (vMth X.K k m)
section
variable {X : Cx}
theorem MtR.imp {id : String} {r r' : V → List V → Hp → VK → Prop} (h : MtM X id r) (k : ∀ x xs H Q, r' x xs H Q → r x xs H Q) : MtR X id r' := fun pins s σ H x xs v us Q I rx rs q => h pins s σ H x xs v us Q I rx rs (k _ _ _ _ q)
theorem mthL_lst {K : PySem.W.Frag} {μ : List Addr} {H : Hp} {st st' : Sto} (S : StR K μ H st) {m : Mth} {dx : D} {x : V} {ds : List D} {d : D} (r : Rep K μ H dx x) (h : mthV .lst m dx ds st = .ok d st') : ∃ l a xs vs, dx = .ref l ∧ x = .ref a ∧ μ[l]? = some a ∧ sget st l = some (.lst xs) ∧ H a = some (.lst vs) ∧ Paired (Rep K μ H) xs vs := by
  cases dx with
  | ref l =>
    obtain ⟨a, ha, rfl⟩ := r
    have h : mthL l m ds st = .ok d st' := h
    unfold mthL at h
    cases e : sget st l with
    | none => rw [e] at h; cases h
    | some o =>
      rw [e] at h
      cases o with
      | lst xs =>
        obtain ⟨vs, h1, h2⟩ := S.lst ha e
        exact ⟨l, a, xs, vs, rfl, rfl, ha, e, h1, h2⟩
      | _ => cases h
  | _ => cases h
theorem Post.wr {K : PySem.W.Frag} {μ : List Addr} {H : Hp} {st : Sto} {Q : VK} (S : StR K μ H st) {l : Nat} {a : Addr} {vs ws : List V} {ys : List D} {d : D} {v : V} (ha : μ[l]? = some a) (h1 : H a = some (.lst vs)) (p : Post K μ H d (sput st l (.lst ys)) Q)
    (rv : Rep K μ H d v) (rw_ : Paired (Rep K μ H) ys ws) : Q v (upd H a (.lst ws)) := by
  have L := le_put ha h1 (fun z => z) (.lst ws)
  refine p μ v _ L (rv.mono L) ?_
  rw [sput_eq]
  exact S.put ha h1 (fun z => z) ⟨_, upd_same, RepL.iff.mpr (Pr.imp rw_ fun _ _ r => r.mono L)⟩
theorem mt_l_append : MtR X "list.append" (vMth X.K .lst .append) := MtR.imp mt_append fun x xs H Q ⟨μ, dx, ds, st, d, st', S, r1, rd, h, p⟩ => by
  obtain ⟨l, a, ys, vs, rfl, rfl, ha, e, h1, hv⟩ := mthL_lst S r1 h
  have h : mthL l .append ds st = .ok d st' := h
  unfold mthL at h
  rw [e] at h
  match ds, rd, h with
  | [], _, h => cases h
  | [d0], rd, h =>
    obtain ⟨y, rfl, r2⟩ := rl1 rd
    obtain ⟨hz, h⟩ := ite_ok (show (if Nat.blt ys.length line = true then R.ok D.non (sput st l (.lst (ys ++ [d0]))) else R.no) = .ok d st' from h)
    cases h
    refine ⟨a, vs, y, rfl, rfl, h1, ?_, p.wr S ha h1 rfl (Pr.app hv (.cons r2 .nil))⟩
    rw [← hv.length, sizeLine_eq]
    exact Nat.blt_eq.mp hz
  | _ :: _ :: _, _, h => cases h
theorem mt_l_extend : MtR X "list.extend" (vMth X.K .lst .extend) := MtR.imp mt_extend fun x xs H Q ⟨μ, dx, ds, st, d, st', S, r1, rd, h, p⟩ => by
  obtain ⟨l, a, ys, vs, rfl, rfl, ha, e, h1, hv⟩ := mthL_lst S r1 h
  have h : mthL l .extend ds st = .ok d st' := h
  unfold mthL at h
  rw [e] at h
  match ds, rd, h with
  | [], _, h => cases h
  | [d0], rd, h =>
    obtain ⟨y, rfl, r2⟩ := rl1 rd
    cases d0 with
    | ref b =>
      obtain ⟨a2, ha2, rfl⟩ := r2
      have h : (match sget st b with | some (.lst zs) => if small (ys.length + zs.length) = true then R.ok D.non (sput st l (.lst (ys ++ zs))) else R.no | _ => R.no) = .ok d st' := h
      cases e2 : sget st b with
      | none => rw [e2] at h; cases h
      | some o =>
        rw [e2] at h
        cases o with
        | lst zs =>
          obtain ⟨hz, h⟩ := ite_ok (show (if small (ys.length + zs.length) = true then R.ok D.non (sput st l (.lst (ys ++ zs))) else R.no) = .ok d st' from h)
          cases h
          obtain ⟨ws, h2, hw⟩ := S.lst ha2 e2
          refine ⟨a, a2, vs, ws, rfl, rfl, h1, h2, ?_, p.wr S ha h1 rfl (Pr.app hv hw)⟩
          rw [← hv.length, ← hw.length]
          exact small_iff hz
        | _ => cases h
    | _ => cases h
  | _ :: _ :: _, _, h => cases h
theorem dropLast_take {α : Type} (xs : List α) : xs.dropLast = xs.take (xs.length - 1) := List.dropLast_eq_take
theorem place_seq {n : Nat} {i : Int} {k : Nat} (h : place n i = some k) (hn : n ≤ sizeLine) : seqIndex? i n = some k ∧ -(2 ^ 63) ≤ i ∧ i < 2 ^ 63 ∧ k < n := by
  have hs := sizeLine_eq
  unfold place at h
  cases i with
  | ofNat j =>
    obtain ⟨hj, h⟩ := ifO (show (if Nat.blt j n = true then some j else none) = some k from h)
    cases h
    have hj := Nat.blt_eq.mp hj
    have h0 : (0 : Int) ≤ Int.ofNat k := Int.natCast_nonneg k
    have h1 : Int.ofNat k < (n : Int) := Int.ofNat_lt.mpr hj
    refine ⟨?_, by omega, by omega, hj⟩
    rw [seqIndex_of h0 h1]
    rfl
  | negSucc j =>
    obtain ⟨hj, h⟩ := ifO (show (if Nat.blt j n = true then some (n - (j + 1)) else none) = some k from h)
    cases h
    have hj := Nat.blt_eq.mp hj
    refine ⟨?_, by omega, by omega, by omega⟩
    have e : (Int.negSucc j + (n : Int)).toNat = n - (j + 1) := by omega
    rw [seqIndex_neg (Int.negSucc_lt_zero j) (by omega), e]
theorem mt_l_pop : MtR X "list.pop" (vMth X.K .lst .pop) := MtR.imp (MtR.or mt_pop mt_popAt) fun x xs H Q ⟨μ, dx, ds, st, d, st', S, r1, rd, h, p⟩ => by
  obtain ⟨l, a, ys, vs, rfl, rfl, ha, e, h1, hv⟩ := mthL_lst S r1 h
  have h : mthL l .pop ds st = .ok d st' := h
  unfold mthL at h
  rw [e] at h
  match ds, rd, h with
  | [], rd, h =>
    cases (show xs = [] from rd)
    have h : (match nth ys (ys.length - 1) with | some d => R.ok d (sput st l (.lst (ys.take (ys.length - 1)))) | none => R.no) = .ok d st' := h
    cases e2 : nth ys (ys.length - 1) with
    | none => rw [e2] at h; cases h
    | some d1 =>
      rw [e2] at h
      cases h
      rw [nth_eq] at e2
      obtain ⟨y, h3, h4⟩ := Pr.get hv e2
      refine .inl ⟨a, vs, y, rfl, rfl, h1, by rw [← hv.length]; exact h3, ?_⟩
      rw [dropLast_take, ← hv.length]
      exact p.wr S ha h1 h4 (Pr.take _ hv)
  | [d0], rd, h =>
    obtain ⟨y, rfl, r2⟩ := rl1 rd
    cases d0 with
    | int i =>
      cases (show y = .int i from r2)
      obtain ⟨hl, h⟩ := ite_ok (show (if small ys.length = true then (match place ys.length i with | some k => (match nth ys k with | some d => R.ok d (sput st l (.lst (delIx ys k))) | none => R.no) | none => R.no) else R.no) = .ok d st' from h)
      have h : (match place ys.length i with | some k => (match nth ys k with | some d => R.ok d (sput st l (.lst (delIx ys k))) | none => R.no) | none => R.no) = .ok d st' := h
      cases e3 : place ys.length i with
      | none => rw [e3] at h; cases h
      | some k =>
        rw [e3] at h
        have h : (match nth ys k with | some d => R.ok d (sput st l (.lst (delIx ys k))) | none => R.no) = .ok d st' := h
        cases e2 : nth ys k with
        | none => rw [e2] at h; cases h
        | some d1 =>
          rw [e2] at h
          cases h
          rw [nth_eq] at e2
          obtain ⟨y, h3, h4⟩ := Pr.get hv e2
          obtain ⟨g1, g2, g3, g4⟩ := place_seq e3 (small_iff hl)
          refine .inr ⟨a, vs, i, k, y, rfl, rfl, h1, g2, g3, by rw [← hv.length]; exact g1, h3, p.wr S ha h1 h4 ?_⟩
          rw [delIx_eq]
          exact Pr.eraseIdx k hv
    | _ => cases h
  | _ :: _ :: _, _, h => cases h
/-! ### texts -/
theorem joinS_ok {K : PySem.W.Frag} {μ : List Addr} {H : Hp} {sep : Str} : ∀ {xs : List D} {vs : List V} {l : List Nat}, Paired (Rep K μ H) xs vs → joinS (chars sep) xs = some l → ∃ ys : List Str, vs = ys.map V.str ∧ (Txt.join sep ys).cps.toList = l ∧
    (ys.map (·.length)).sum + (ys.length - 1) * sep.length = l.length := by
  intro xs vs l h hj
  have e0 : ∀ ys, Txt.join sep ys = Str.join sep ys := fun ys => StrLaws.glued_eq_join sep ys
  simp only [e0]
  induction xs generalizing vs l with
  | nil =>
    cases h
    cases hj
    exact ⟨[], rfl, rfl, by simp⟩
  | cons x xs ih =>
    cases h with
    | @cons _ v _ vs' r t =>
      cases x with
      | str z =>
        cases (show v = .str z from r)
        cases xs with
        | nil =>
          cases t
          cases (show some z.cps.toList = some l from hj)
          refine ⟨[z], rfl, rfl, ?_⟩
          simp [Str.length]
        | cons y ys =>
          have hj : (match joinS (chars sep) (y :: ys) with | some t => some (z.cps.toList ++ chars sep ++ t) | none => none) = some l := hj
          cases e : joinS (chars sep) (y :: ys) with
          | none => rw [e] at hj; cases hj
          | some t' =>
            rw [e] at hj
            cases hj
            obtain ⟨zs, h1, h2, h3⟩ := ih t e
            cases zs with
            | nil => rw [h1] at t; cases t
            | cons w ws =>
              refine ⟨z :: w :: ws, by rw [h1]; rfl, ?_, ?_⟩
              · show (z ++ sep ++ Str.join sep (w :: ws)).cps.toList = _
                rw [← h2]
                show (z.cps ++ sep.cps ++ (Str.join sep (w :: ws)).cps).toList = _
                simp [chars]
              · rw [List.length_append, List.length_append, ← h3]
                have e1 : z.cps.toList.length = z.length := Array.length_toList
                have e2 : (chars sep).length = sep.length := Array.length_toList
                rw [e1, e2]
                simp only [List.map_cons, List.sum_cons, List.length_cons]
                have : (ws.length + 1 + 1 - 1) * sep.length = (ws.length + 1 - 1) * sep.length + sep.length := by
                  rw [show ws.length + 1 + 1 - 1 = (ws.length + 1 - 1) + 1 by omega, Nat.succ_mul]
                omega
      | _ => cases hj
theorem mth_str {K : PySem.W.Frag} {μ : List Addr} {H : Hp} {st st' : Sto} {m : Mth} {dx : D} {x : V} {ds : List D} {d : D} (r : Rep K μ H dx x) (h : mthV .str m dx ds st = .ok d st') : ∃ z, dx = .str z ∧ x = .str z ∧ mthS z m ds st = .ok d st' := by
  cases dx with
  | str z => exact ⟨z, rfl, r, h⟩
  | _ => cases h
theorem mt_s_join : MtR X "str.join" (vMth X.K .str .join) := MtR.imp mt_join fun x xs H Q ⟨μ, dx, ds, st, d, st', S, r1, rd, h, p⟩ => by
  obtain ⟨z, rfl, rfl, h⟩ := mth_str r1 h
  match ds, rd, h with
  | [], _, h => cases h
  | [d0], rd, h =>
    obtain ⟨y, rfl, r2⟩ := rl1 rd
    have h : (match rowOf d0 st with | some xs => (match joinS (chars z) xs with | some l => if small (l.length + z.length) = true then R.ok (D.str (ofChars l)) st else R.no | none => R.no) | none => R.no) = .ok d st' := h
    cases e : rowOf d0 st with
    | none => rw [e] at h; cases h
    | some ys =>
      rw [e] at h
      have h : (match joinS (chars z) ys with | some l => if small (l.length + z.length) = true then R.ok (D.str (ofChars l)) st else R.no | none => R.no) = .ok d st' := h
      cases e2 : joinS (chars z) ys with
      | none => rw [e2] at h; cases h
      | some l =>
        rw [e2] at h
        obtain ⟨hz, h⟩ := ite_ok (show (if small (l.length + z.length) = true then R.ok (D.str (ofChars l)) st else R.no) = .ok d st' from h)
        cases h
        obtain ⟨a, vs, rfl, hv, hc⟩ := row_of S r2 e
        obtain ⟨ws, g1, g2, g3⟩ := joinS_ok hv e2
        subst g1
        have hs := small_iff hz
        have hs2 := sizeLine_eq
        refine ⟨z, a, ws, rfl, rfl, ?_, ?_, ?_⟩
        · rcases hc with ⟨l, rfl, ha⟩ | ⟨rfl, its, ha⟩
          · exact .inl (.inl (.inl ha))
          · exact .inr (.inl (.inr ⟨_, ha⟩))
        · cases ws with
          | nil => simp
          | cons w ws =>
            have : (w :: ws).length * z.length = ((w :: ws).length - 1) * z.length + z.length := by
              rw [List.length_cons, Nat.add_sub_cancel, Nat.succ_mul]
            omega
        · have e3 : Txt.join z ws = ofChars l := by
            rw [← g2]
            rfl
          rw [e3]
          exact p.str S
  | [_, _], _, h => cases (show R.no = R.ok d st' from h)
  | [_, _, _], _, h => cases (show R.no = R.ok d st' from h)
  | _ :: _ :: _ :: _ :: _, _, h => cases h
theorem sign1_ok {d : D} {c : Nat} (h : sign1 d = some c) : d = .str ⟨#[c]⟩ := by
  cases d with
  | str y =>
    obtain ⟨⟨l⟩⟩ := y
    match l, h with
    | [], h => cases h
    | [a], h => cases h; rfl
    | _ :: _ :: _, h => cases h
  | _ => cases h
theorem mt_s_find : MtR X "str.find" (vMth X.K .str .find) := by
  intro pins s σ H x xs v us Q I rx rs ⟨μ, dx, ds, st, d, st', S, r1, rd, h, p⟩
  obtain ⟨z, rfl, rfl, h⟩ := mth_str r1 h
  match ds, rd, h with
  | [], _, h => cases h
  | [d0], rd, h =>
    obtain ⟨y, rfl, r2⟩ := rl1 rd
    have h : (match sign1 d0 with | some c => R.ok (D.int (findS z.cps.toList c 0 z.length)) st | none => R.no) = .ok d st' := h
    cases e : sign1 d0 with
    | none => rw [e] at h; cases h
    | some c =>
      rw [e] at h
      cases h
      cases sign1_ok e
      cases (show y = .str _ from r2)
      refine mt_find pins s σ H _ _ v us Q I rx rs ⟨z, _, rfl, rfl, ?_⟩
      rw [show Txt.find z ⟨#[c]⟩ = findS z.cps.toList c 0 z.length from occ_find z c 0 z.length (Nat.le_refl _)]
      exact p.int S
  | [d0, d1], rd, h =>
    obtain ⟨y, w, rfl, r2, r3⟩ := rl2 rd
    have h : (match sign1 d0 with | some c => (match d1 with | .int i => R.ok (D.int (findS z.cps.toList c (clip z.length i) z.length)) st | _ => R.no) | none => R.no) = .ok d st' := h
    cases e : sign1 d0 with
    | none => rw [e] at h; cases h
    | some c =>
      rw [e] at h
      cases d1 with
      | int i =>
        cases (show R.ok (D.int (findS z.cps.toList c (clip z.length i) z.length)) st = .ok d st' from h)
        cases sign1_ok e
        cases (show y = .str _ from r2)
        cases (show w = .int _ from r3)
        refine mt_find3 pins s σ H _ _ v us Q I rx rs ⟨z, _, i, rfl, rfl, ?_⟩
        have e3 : Txt.find3 z ⟨#[c]⟩ i = findS z.cps.toList c (clip z.length i) z.length := by
          rw [← findS_lo z.cps.toList c z.length i (by rw [Array.length_toList]; rfl) z.length (Nat.le_refl _)]
          exact occ_find z c _ z.length (Nat.le_refl _)
        rw [e3]
        exact p.int S
      | _ => cases h
  | [d0, d1, d2], rd, h =>
    obtain ⟨y, w, u, rfl, r2, r3, r4⟩ := rl3 rd
    have h : (match sign1 d0 with | some c => (match d1 with | .int i => (match d2 with | .int j => R.ok (D.int (findS z.cps.toList c (clip z.length i) (clip z.length j))) st | _ => R.no) | _ => R.no) | none => R.no) = .ok d st' := h
    cases e : sign1 d0 with
    | none => rw [e] at h; cases h
    | some c =>
      rw [e] at h
      cases d1 with
      | int i =>
        cases d2 with
        | int j =>
          cases (show R.ok (D.int (findS z.cps.toList c (clip z.length i) (clip z.length j))) st = .ok d st' from h)
          cases sign1_ok e
          cases (show y = .str _ from r2)
          cases (show w = .int _ from r3)
          cases (show u = .int _ from r4)
          refine mt_find4 pins s σ H _ _ v us Q I rx rs ⟨z, _, i, j, rfl, rfl, ?_⟩
          have e3 : Txt.findIn z ⟨#[c]⟩ i j = findS z.cps.toList c (clip z.length i) (clip z.length j) := by
            obtain ⟨c1, c2⟩ := clip_hi z.length j
            rw [← findS_lo z.cps.toList c z.length i (by rw [Array.length_toList]; rfl) (clip z.length j) c2]
            unfold Txt.findIn
            rw [c1]
            exact occ_find z c _ (clip z.length j) c2
          rw [e3]
          exact p.int S
        | _ => cases h
      | _ => cases h
  | _ :: _ :: _ :: _ :: _, _, h => cases h
/-! ### index -/
theorem findIx_ok {x : D} : ∀ {ys : List D} {k : Nat}, findIx x ys = some k → ∃ y, ys[k]? = some y ∧ D.eqv y x = true ∧ ∀ (m : Nat) (z : D), m < k → ys[m]? = some z → D.eqv z x = false
  | [], _, h => by cases h
  | y :: ys, k, h => by
    have h : (if D.eqv y x = true then some 0 else (match findIx x ys with | some k => some (k + 1) | none => none)) = some k := h
    by_cases e : D.eqv y x = true
    · rw [if_pos e] at h
      cases h
      exact ⟨y, rfl, e, fun m z hm => absurd hm (Nat.not_lt_zero m)⟩
    · rw [if_neg e] at h
      cases e2 : findIx x ys with
      | none => rw [e2] at h; cases h
      | some j =>
        rw [e2] at h
        cases h
        obtain ⟨z, h1, h2, h3⟩ := findIx_ok e2
        refine ⟨z, by simpa using h1, h2, fun m w hm hw => ?_⟩
        cases m with
        | zero => cases (show some y = some w from hw); simpa using e
        | succ m => exact h3 m w (by omega) (by simpa using hw)
/-- what the model asks of the items -/
theorem index_core {pins : List (Addr × Obj)} {σ : L2.St} {H : Hp} {s : Shared} {μ : List Addr} (hu : X.A.units + 200 < cLine) (I : Inv X pins σ H s) {ys : List D} {vs : List V} {its : List Value} {d0 : D} {y : V} {uy : Value} {k : Nat} (hp : D.plain d0 = true) (hl : D.plainL ys = true) (hv : RepL X.K μ H ys vs) (rv : Vals vs its) (r2 : Rep X.K μ H d0 y) (ry : RelV y uy) (hk : findIx d0 ys = some k) :
    ∃ e : Value → Bool, k < its.length ∧ (∀ (hj : k < its.toArray.size), e its.toArray[k] = true) ∧ (∀ m (hm : m < its.toArray.size), m < k → e its.toArray[m] = false) ∧ ∀ z, z ∈ its.toArray → SeqAt.EqAt X.A.in1 s z uy (e z) := by
  obtain ⟨as, e1⟩ := rep_reads I 60 d0 y uy hp r2 ry
  obtain ⟨bs, e2⟩ := repL_reads I 60 ys vs its hl hv rv
  obtain ⟨a1, a2⟩ := pl_plain 60 d0 hp
  obtain ⟨b1, b2⟩ := plL_plain 60 ys hl
  have hmap := SeqAt.readsAll_map_plain _ _ _ b1 e2
  have hlen : its.length = ys.length := by rw [← rv.length, ← (RepL.iff.mp hv).length]
  obtain ⟨z, g1, g2, g3⟩ := findIx_ok hk
  have hpl : ∀ (m : Nat) (w : D), ys[m]? = some w → D.pl 60 w = true := by
    have : ∀ (ys : List D), D.plL 60 ys = true → ∀ (m : Nat) (w : D), ys[m]? = some w → D.pl 60 w = true := by
      intro ys
      induction ys with
      | nil => intro _ m w hw; simp at hw
      | cons q qs ih =>
        intro h m w hw
        obtain ⟨c1, c2⟩ := b_and (show (D.pl 60 q && D.plL 60 qs) = true from by simpa [D.plL] using h)
        cases m with
        | zero => cases (show some q = some w from hw); exact c1
        | succ m => exact ih c2 m w (by simpa using hw)
    exact this ys hl
  have at_ : ∀ (m : Nat) (hm : m < its.toArray.size) (w : D), ys[m]? = some w → SeqAt.readOf s.heap its.toArray[m] = toP w := by
    intro m hm w hw
    have hml : m < its.length := by simpa using hm
    have q : (its.map (SeqAt.readOf s.heap))[m]? = (toPL ys)[m]? := by rw [hmap]
    rw [List.getElem?_map, List.getElem?_eq_getElem hml, toPL_map, List.getElem?_map, hw] at q
    simpa using q
  have hkl : k < ys.length := (List.getElem?_eq_some_iff.mp g1).1
  refine ⟨fun u => PyData.eqv (SeqAt.readOf s.heap u) (toP d0), by omega, fun hj => ?_, fun m hm hmk => ?_, SeqAt.items_plain (vs := its.toArray) (show ReadsAll s.heap its.toArray.toList (toPL ys) bs from e2) e1 b1 a1 (by have := Nat.min_le_right (PyData.depthAll (toPL ys)) (toP d0).depth; omega)⟩
  · show PyData.eqv (SeqAt.readOf s.heap its.toArray[k]) (toP d0) = true
    rw [at_ k hj z g1, ← eqv_eq 60 60 z d0 (hpl k z g1) hp]
    exact g2
  · have hmd : m < ys.length := by omega
    have hw : ys[m]? = some ys[m] := List.getElem?_eq_getElem hmd
    show PyData.eqv (SeqAt.readOf s.heap its.toArray[m]) (toP d0) = false
    rw [at_ m hm _ hw, ← eqv_eq 60 60 _ d0 (hpl m _ hw) hp]
    exact g3 m _ hmk hw
theorem mt_l_index (hu : X.A.units + 200 < cLine) : MtR X "list.index" (vMth X.K .lst .index) := by
  intro pins s σ H x xs v us Q I rx rs ⟨μ, dx, ds, st, d, st', S, r1, rd, h, p⟩
  obtain ⟨l, a, ys, vs, rfl, rfl, ha, e, h1, hv⟩ := mthL_lst S r1 h
  have h : mthL l .index ds st = .ok d st' := h
  unfold mthL at h
  rw [e] at h
  match ds, rd, h with
  | [], _, h => cases h
  | [d0], rd, h =>
    obtain ⟨y, rfl, r2⟩ := rl1 rd
    obtain ⟨hb, h⟩ := ite_ok (show (if (D.plain d0 && D.plainL ys) = true then (match findIx d0 ys with | some k => R.ok (D.int (k : Nat)) st | none => R.no) else R.no) = .ok d st' from h)
    obtain ⟨hp, hl⟩ := b_and hb
    cases ek : findIx d0 ys with
    | none => rw [ek] at h; cases h
    | some k =>
      rw [ek] at h
      cases h
      cases (show v = Value.ref a from rx)
      cases rs with
      | cons ry rt =>
        rename_i uy ut
        cases rt
        obtain ⟨z, its, n, rv, ho⟩ := (show ObjOk X.prog X.w H s.heap a (.lst vs) from I.hok a _ h1)
        obtain ⟨e, g1, g2, g3, g4⟩ := index_core hu I hp hl (RepL.iff.mpr hv) rv r2 ry ek
        have hj : k < its.toArray.size := by simpa using g1
        have hz : its.length ≤ sizeLine := by rw [← rv.length]; exact z
        have hs := sizeLine_eq
        exact call_meets PySem.F.slot_list_index ⟨_, ho, rfl⟩ PySem.F.entry_list_index (PySem.F.args_list_index_2 _ _) (SeqAt.list_indexAt a its.toArray n none #[] uy e k hj (by omega) (g2 hj) g3) ⟨ho, g4, ⟨.int (k : Nat), H, I.tok _, ⟨_, rfl⟩, p.int S⟩⟩
  | _ :: _ :: _, _, h => cases h
theorem mt_t_index (hu : X.A.units + 200 < cLine) : MtR X "tuple.index" (vMth X.K .tup .index) := by
  intro pins s σ H x xs v us Q I rx rs ⟨μ, dx, ds, st, d, st', S, r1, rd, h, p⟩
  cases dx with
  | tup ys =>
    obtain ⟨a, vs, its0, rfl, ha, hv⟩ := r1
    match ds, rd, h with
    | [], _, h => cases h
    | [d0], rd, h =>
      obtain ⟨y, rfl, r2⟩ := rl1 rd
      obtain ⟨hb, h⟩ := ite_ok (show (if (D.plain d0 && D.plainL ys) = true then (match findIx d0 ys with | some k => R.ok (D.int (k : Nat)) st | none => R.no) else R.no) = .ok d st' from h)
      obtain ⟨hp, hl⟩ := b_and hb
      cases ek : findIx d0 ys with
      | none => rw [ek] at h; cases h
      | some k =>
        rw [ek] at h
        cases h
        cases (show v = Value.ref a from rx)
        cases rs with
        | cons ry rt =>
          rename_i uy ut
          cases rt
          obtain ⟨ho, z, its, rv, ⟨o', ho', hc', n', hd'⟩⟩ := (show ObjOk X.prog X.w H s.heap a (.frz (tupO its0) (.tup vs)) from I.hok a _ ha)
          have eo : o' = tupO its0 := Option.some.inj (ho'.symm.trans ho)
          subst eo
          have ei : its0.toArray = its.toArray ∧ 0 = n' := by
            have q : Data.seq its0.toArray 0 = Data.seq its.toArray n' := hd'
            injection q with q1 q2
            exact ⟨q1, q2⟩
          have ei2 : its0 = its := by simpa using ei.1
          subst ei2
          obtain ⟨e, g1, g2, g3, g4⟩ := index_core hu I hp hl hv rv r2 ry ek
          have hj : k < its0.toArray.size := by simpa using g1
          exact call_meets PySem.F.slot_tuple_index ⟨_, ho, rfl⟩ PySem.F.entry_tuple_index (PySem.F.args_tuple_index_2 _ _) (_root_.TI.tuple_indexAt a its0.toArray 0 none #[] uy e k hj (g2 hj) g3) ⟨ho, g4, ⟨.int (k : Nat), H, I.tok _, ⟨_, rfl⟩, p.int S⟩⟩
    | _ :: _ :: _, _, h => cases h
  | _ => cases h
/-! ### get -/
theorem mt_d_get (hu : X.A.units + 200 < cLine) : MtR X "dict.get" (vMth X.K .dct .get) := by
  intro pins s σ H x xs v us Q I rx rs ⟨μ, dx, ds, st, d, st', S, r1, rd, h, p⟩
  cases dx with
  | ref l =>
    obtain ⟨a, ha, rfl⟩ := r1
    cases (show v = Value.ref a from rx)
    have h : mthD l .get ds st = .ok d st' := h
    unfold mthD at h
    cases e : sget st l with
    | none => rw [e] at h; cases h
    | some o =>
      rw [e] at h
      have eR : sgetR st l = some o ∨ True := .inr trivial
      cases o with
      | dct kvs =>
        have e2 : sgetR st l = some (.dct kvs) := by unfold sgetR; rw [e]
        match ds, rd, rs, h with
        | [], _, _, h => cases h
        | [k0], rd, rs, h =>
          obtain ⟨y, rfl, r2⟩ := rl1 rd
          obtain ⟨hk, h⟩ := ite_ok (show (if D.simple k0 = true then R.ok ((kvGet k0 kvs).getD .non) st else R.no) = .ok d st' from h)
          cases h
          obtain ⟨o, g, q1, q2⟩ := dct_get (S.dct ha e2) hk r2
          cases rs with
          | cons ry rt =>
            cases rt
            refine d_get1 (by omega) I g ry fun w' s' I2 rw' => ⟨_, H, I2, rw', ?_⟩
            cases ek : kvGet k0 kvs with
            | none => rw [q2 ek]; rw [ek] at p; exact p μ .non H .refl rfl S
            | some d1 =>
              obtain ⟨w, ew, rw2⟩ := q1 _ ek
              rw [ew]
              rw [ek] at p
              exact p μ w H .refl rw2 S
        | [k0, d0], rd, rs, h =>
          obtain ⟨y, z, rfl, r2, r3⟩ := rl2 rd
          obtain ⟨hk, h⟩ := ite_ok (show (if D.simple k0 = true then R.ok ((kvGet k0 kvs).getD d0) st else R.no) = .ok d st' from h)
          cases h
          obtain ⟨o, g, q1, q2⟩ := dct_get (S.dct ha e2) hk r2
          cases rs with
          | cons ry rt =>
            cases rt with
            | cons rz rt =>
              cases rt
              refine d_get2 (by omega) I g ry rz fun w' s' I2 rw' => ⟨_, H, I2, rw', ?_⟩
              cases ek : kvGet k0 kvs with
              | none => rw [q2 ek]; rw [ek] at p; exact p μ z H .refl r3 S
              | some d1 =>
                obtain ⟨w, ew, rw2⟩ := q1 _ ek
                rw [ew]
                rw [ek] at p
                exact p μ w H .refl rw2 S
        | k0 :: _ :: _ :: _, _, _, h =>
          obtain ⟨_, h⟩ := ite_ok (show (if D.simple k0 = true then R.no else R.no) = .ok d st' from h)
          cases h
      | dcT kvs =>
        have e2 : sgetR st l = some (.dcT kvs) := by unfold sgetR; rw [e]
        match ds, rd, rs, h with
        | [], _, _, h => cases h
        | [k0], rd, rs, h =>
          obtain ⟨y, rfl, r2⟩ := rl1 rd
          obtain ⟨hk, h⟩ := ite_ok (show (if D.isInts k0 = true then R.ok ((kvGet k0 kvs).getD .non) st else R.no) = .ok d st' from h)
          cases h
          obtain ⟨l2, ks, c, g1, g2, rfl, g3, q1, q2⟩ := dcT_get (S.dctT ha e2) hk r2
          cases rs with
          | cons ry rt =>
            cases rt
            rename_i uy
            cases (show uy = Value.ref c from ry)
            refine t_get1 (by omega) I g1 g2 g3 fun w' s' I2 rw' => ⟨_, H, I2, rw', ?_⟩
            cases ek : kvGet k0 kvs with
            | none => rw [q2 ek]; rw [ek] at p; exact p μ .non H .refl rfl S
            | some d1 =>
              obtain ⟨w, ew, rw2⟩ := q1 _ ek
              rw [ew]
              rw [ek] at p
              exact p μ w H .refl rw2 S
        | [k0, d0], rd, rs, h =>
          obtain ⟨y, z, rfl, r2, r3⟩ := rl2 rd
          obtain ⟨hk, h⟩ := ite_ok (show (if D.isInts k0 = true then R.ok ((kvGet k0 kvs).getD d0) st else R.no) = .ok d st' from h)
          cases h
          obtain ⟨l2, ks, c, g1, g2, rfl, g3, q1, q2⟩ := dcT_get (S.dctT ha e2) hk r2
          cases rs with
          | cons ry rt =>
            cases rt with
            | cons rz rt =>
              cases rt
              rename_i uy uz
              cases (show uy = Value.ref c from ry)
              refine t_get2 (by omega) I g1 g2 g3 rz fun w' s' I2 rw' => ⟨_, H, I2, rw', ?_⟩
              cases ek : kvGet k0 kvs with
              | none => rw [q2 ek]; rw [ek] at p; exact p μ z H .refl r3 S
              | some d1 =>
                obtain ⟨w, ew, rw2⟩ := q1 _ ek
                rw [ew]
                rw [ek] at p
                exact p μ w H .refl rw2 S
        | k0 :: _ :: _ :: _, _, _, h =>
          obtain ⟨_, h⟩ := ite_ok (show (if D.isInts k0 = true then R.no else R.no) = .ok d st' from h)
          cases h
      | _ => cases h
  | _ => cases h
theorem mth_all (hu : X.A.units + 200 < cLine) {k : Kd} {m : Mth} (h : hasM k m = true) : MthR X k m := by
  cases k <;> cases m <;> first | (exact absurd h Bool.false_ne_true) | skip
  · exact ⟨_, PySem.F.plainAttrs_str, PySem.F.slot_str_join, PySem.F.type_str_join, mt_s_join⟩
  · exact ⟨_, PySem.F.plainAttrs_str, PySem.F.slot_str_find, PySem.F.type_str_find, mt_s_find⟩
  · exact ⟨_, PySem.F.plainAttrs_list, PySem.F.slot_list_append, PySem.F.type_list_append, mt_l_append⟩
  · exact ⟨_, PySem.F.plainAttrs_list, PySem.F.slot_list_extend, PySem.F.type_list_extend, mt_l_extend⟩
  · exact ⟨_, PySem.F.plainAttrs_list, PySem.F.slot_list_pop, PySem.F.type_list_pop, mt_l_pop⟩
  · exact ⟨_, PySem.F.plainAttrs_list, PySem.F.slot_list_index, PySem.F.type_list_index, mt_l_index hu⟩
  · exact ⟨_, PySem.F.plainAttrs_tuple, PySem.F.slot_tuple_index, PySem.F.type_tuple_index, mt_t_index hu⟩
  · exact ⟨_, PySem.F.plainAttrs_dict, PySem.F.slot_dict_get, PySem.F.type_dict_get, mt_d_get hu⟩
end
end Ev
end

section
set_option Elab.async false
set_option linter.all false
set_option maxRecDepth 100000
set_option maxHeartbeats 2000000
/-! Snd10b: built-ins that walk one thing: sum, all, any, min, max, sorted. -/
namespace Ev
open PySem PySem.Spec L2
theorem foldI_sum : ∀ (xs : List D) (a i : Int), foldI (· + ·) a xs = some i → ∃ ns : List Int, xs = ns.map D.int ∧ i = a + ns.sum
  | [], a, i, h => ⟨[], rfl, by cases (show some a = some i from h); simp⟩
  | x :: xs, a, i, h => by
    cases x with
    | int j =>
      obtain ⟨ns, rfl, e⟩ := foldI_sum xs (a + j) i h
      exact ⟨j :: ns, rfl, by rw [e, List.sum_cons]; omega⟩
    | _ => cases h
theorem ints_rep {K : PySem.W.Frag} {μ : List Addr} {H : Hp} : ∀ {ns : List Int} {vs : List V}, Paired (Rep K μ H) (ns.map D.int) vs → vs = ns.map V.int
  | [], _, h => by cases h; rfl
  | n :: ns, _, h => by
    cases h with
    | cons r t =>
      cases (show _ = V.int n from r)
      rw [ints_rep t]
      rfl
section
variable {X : Cx}
theorem cr_sum1 (hc : X.calm = true) : CallR X (.builtin "sum") (vBlt X.K .sum) := by
  intro pins s σ H xs us Q I r ⟨μ, ds, st, d, st', S, rd, h, p⟩
  obtain ⟨d0, rfl⟩ := one_arg rfl h
  obtain ⟨x, rfl, r1⟩ := rl1 rd
  have h : (match rowOf d0 st with | some xs => bltI .sum xs st | none => .no) = .ok d st' := h
  cases e : rowOf d0 st with
  | none => rw [e] at h; cases h
  | some ys =>
    rw [e] at h
    have h : (match foldI (· + ·) 0 ys with | some i => R.ok (D.int i) st | none => .no) = .ok d st' := h
    cases e2 : foldI (· + ·) 0 ys with
    | none => rw [e2] at h; cases h
    | some i =>
      rw [e2] at h
      cases h
      obtain ⟨ns, rfl, ei⟩ := foldI_sum ys 0 i e2
      rw [Int.zero_add] at ei
      subst ei
      obtain ⟨a, vs, rfl, hv, hk⟩ := row_of S r1 e
      have hvs := ints_rep hv
      subst hvs
      rcases hk with ⟨l, rfl, ha⟩ | ⟨rfl, its, ha⟩
      · exact cr_sum hc pins s σ H _ us Q I r ⟨a, ns, rfl, .inl (.inl ha), p.int S⟩
      · obtain ⟨its', rv, pl, _⟩ := I.tuple (.inl (.inr ⟨_, ha⟩))
        rw [Vals.ref1 r]
        have hi := rv.ints
        obtain ⟨xs, hx⟩ := hi.allInts.items
        have hn : numsOf its'.toArray.toList = ns := by rw [show its'.toArray.toList = its' from rfl, hi.numsOf]
        rw [hx] at pl hn
        rw [nums_intItems] at hn
        refine PySem.W.ktm_sumG (I.ok.hd hc) pl fun h' tk t' hk => ?_
        refine ⟨.int _, H, I.kept hk, ⟨t', ?_⟩, p.int S⟩
        rw [preSum_eq, List.take_of_length_le (by simp), hn]
end
/-! ### alike data -/
mutual
theorem toP_inj : ∀ (k j : Nat) (x y : D), D.pl k x = true → D.pl j y = true → toP x = toP y → x = y
  | _, _, .non, y, _, h, e => by cases y <;> first | rfl | (simp [D.pl] at h; done) | simp [toP] at e
  | _, _, .bl a, y, _, h, e => by cases y <;> first | (simp [D.pl] at h; done) | (simp [toP] at e; done) | (simp [toP] at e; rw [e])
  | _, _, .int a, y, _, h, e => by cases y <;> first | (simp [D.pl] at h; done) | (simp [toP] at e; done) | (simp [toP] at e; rw [e])
  | _, _, .str a, y, _, h, e => by cases y <;> first | (simp [D.pl] at h; done) | (simp [toP] at e; done) | (simp [toP] at e; rw [e])
  | _, _, .ref _, _, h, _, _ => by simp [D.pl] at h
  | _, _, .fn _, _, h, _, _ => by simp [D.pl] at h
  | _, _, .rol _, _, h, _, _ => by simp [D.pl] at h
  | 0, _, .tup xs, _, h, _, _ => by simp [D.pl] at h
  | k + 1, 0, .tup xs, y, _, h, e => by cases y <;> first | (simp [D.pl] at h; done) | simp [toP] at e
  | k + 1, j + 1, .tup xs, y, h1, h, e => by
    cases y with
    | tup ys =>
      have e : toPL xs = toPL ys := by simpa [toP] using e
      rw [toPL_inj k j xs ys (by simpa [D.pl] using h1) (by simpa [D.pl] using h) e]
    | _ => first | (simp [D.pl] at h; done) | simp [toP] at e
theorem toPL_inj : ∀ (k j : Nat) (xs ys : List D), D.plL k xs = true → D.plL j ys = true → toPL xs = toPL ys → xs = ys
  | _, _, [], [], _, _, _ => rfl
  | _, _, [], _ :: _, _, _, e => by simp [toPL] at e
  | _, _, _ :: _, [], _, _, e => by simp [toPL] at e
  | k, j, x :: xs, y :: ys, h1, h2, e => by
    obtain ⟨a1, a2⟩ := b_and (show (D.pl k x && D.plL k xs) = true by simpa [D.plL] using h1)
    obtain ⟨b1, b2⟩ := b_and (show (D.pl j y && D.plL j ys) = true by simpa [D.plL] using h2)
    have e : toP x = toP y ∧ toPL xs = toPL ys := by simpa [toPL] using e
    rw [toP_inj k j x y a1 b1 e.1, toPL_inj k j xs ys a2 b2 e.2]
end
theorem alike_ints : ∀ xs ys : List D, xs.all D.isInt = true → ys.all D.isInt = true → D.alikeL xs ys = true
  | [], _, _, _ => rfl
  | x :: xs, [], _, _ => rfl
  | x :: xs, y :: ys, h1, h2 => by
    obtain ⟨a1, a2⟩ := b_and (show (D.isInt x && xs.all D.isInt) = true from h1)
    obtain ⟨b1, b2⟩ := b_and (show (D.isInt y && ys.all D.isInt) = true from h2)
    cases x <;> first | cases a1 | skip
    cases y <;> first | cases b1 | skip
    rw [D.alikeL, alike_ints xs ys a2 b2]
    rfl
theorem alikeTo_mem {x : D} : ∀ {ys : List D} {y : D}, alikeTo x ys = true → y ∈ ys → D.alike x y = true ∧ D.alike y x = true
  | [], _, _, h => by cases h
  | z :: ys, y, h, hm => by
    obtain ⟨h, h3⟩ := b_and (show (D.alike x z && D.alike z x && alikeTo x ys) = true from h)
    rcases List.mem_cons.mp hm with rfl | hm
    · exact b_and h
    · exact alikeTo_mem h3 hm
theorem alikeAll_mem : ∀ {xs : List D} {x y : D}, alikeAll xs = true → x ∈ xs → y ∈ xs → D.alike x y = true
  | [], _, _, _, h, _ => by cases h
  | z :: xs, x, y, h, hx, hy => by
    obtain ⟨h, h3⟩ := b_and (show (D.alike z z && alikeTo z xs && alikeAll xs) = true from h)
    obtain ⟨h1, h2⟩ := b_and h
    rcases List.mem_cons.mp hx with ex | hx'
    · subst ex
      rcases List.mem_cons.mp hy with ey | hy'
      · subst ey; exact h1
      · exact (alikeTo_mem h2 hy').1
    · rcases List.mem_cons.mp hy with ey | hy'
      · subst ey; exact (alikeTo_mem h2 hx').2
      · exact alikeAll_mem h3 hx' hy'
theorem b_or {a b : Bool} (h : (a || b) = true) : a = true ∨ b = true := Bool.or_eq_true_iff.mp h
theorem uni_pl {xs : List D} (h : uniform xs = true) : D.plL 60 xs = true := (b_and h).1
theorem uni_alike {xs : List D} (h : uniform xs = true) {x y : D} (hx : x ∈ xs) (hy : y ∈ xs) : D.alike x y = true ∧ D.isNon x = false := by
  have h := (b_and h).2
  have all : ∀ {p : D → Bool}, xs.all p = true → p x = true ∧ p y = true := fun h => ⟨List.all_eq_true.mp h x hx, List.all_eq_true.mp h y hy⟩
  rcases b_or h with h | h
  · rcases b_or h with h | h
    · rcases b_or h with h | h
      · obtain ⟨a, b⟩ := all h
        cases x <;> first | cases a | skip
        cases y <;> first | exact ⟨rfl, rfl⟩ | cases b
      · obtain ⟨a, b⟩ := all h
        cases x <;> first | cases a | skip
        cases y <;> first | exact ⟨rfl, rfl⟩ | cases b
    · obtain ⟨a, b⟩ := all h
      cases x <;> first | cases a | skip
      cases y <;> first | cases b | skip
      exact ⟨alike_ints _ _ a b, rfl⟩
  · obtain ⟨h1, h2⟩ := b_and h
    exact ⟨alikeAll_mem h1 hx hy, by simpa using (all (p := fun x => !D.isNon x) h2).1⟩
theorem toPL_mem {p : PyData} {xs : List D} (h : p ∈ toPL xs) : ∃ x ∈ xs, toP x = p := by
  rw [toPL_map] at h
  obtain ⟨x, hx, e⟩ := List.mem_map.mp h
  exact ⟨x, hx, e⟩
theorem toP_non {k : Nat} {x : D} (h : D.pl k x = true) (hn : D.isNon x = false) : toP x ≠ .none := by
  cases x <;> first | (simp [D.pl] at h; done) | (simp [D.isNon] at hn; done) | simp [toP]
theorem uni_all {xs : List D} (h : uniform xs = true) : PySem.W.AlikeAll (toPL xs) := by
  refine ⟨fun p hp q hq => ?_, fun p hp => ?_⟩
  · obtain ⟨x, hx, rfl⟩ := toPL_mem hp
    obtain ⟨y, hy, rfl⟩ := toPL_mem hq
    exact alike_eq x y (uni_alike h hx hy).1
  · obtain ⟨x, hx, rfl⟩ := toPL_mem hp
    exact toP_non (plL_mem (uni_pl h) hx) (uni_alike h hx hx).2
/-- the least of alike data -/
theorem least_min {all : List D} (hu : uniform all = true) : ∀ (xs : List D) (m r : D), m ∈ all → (∀ x ∈ xs, x ∈ all) → least D.lt m xs = some r → r ∈ all ∧ PySem.W.minD (toP m) (toPL xs) = toP r
  | [], m, r, hm, _, h => by
    cases (show some m = some r from h)
    exact ⟨hm, rfl⟩
  | x :: xs, m, r, hm, hx, h => by
    have h : (match D.lt x m with | some b => least D.lt (if b then x else m) xs | none => none) = some r := h
    cases e : D.lt x m with
    | none => rw [e] at h; cases h
    | some b =>
      rw [e] at h
      have ex := hx x (by simp)
      have eb := lt_eq 60 60 x m b (plL_mem (uni_pl hu) ex) (plL_mem (uni_pl hu) hm) (uni_alike hu ex hm).1 e
      obtain ⟨h1, h2⟩ := least_min hu xs (if b then x else m) r (by cases b <;> simp [hm, ex]) (fun y hy => hx y (by simp [hy])) h
      refine ⟨h1, ?_⟩
      rw [← h2]
      show PySem.W.minD (if PySem.W.dataLt (toP x) (toP m) = true then toP x else toP m) (toPL xs) = _
      rw [eb]
      cases b <;> rfl
theorem least_max {all : List D} (hu : uniform all = true) : ∀ (xs : List D) (m r : D), m ∈ all → (∀ x ∈ xs, x ∈ all) → least (fun a b => D.lt b a) m xs = some r → r ∈ all ∧ PySem.W.maxD (toP m) (toPL xs) = toP r
  | [], m, r, hm, _, h => by
    cases (show some m = some r from h)
    exact ⟨hm, rfl⟩
  | x :: xs, m, r, hm, hx, h => by
    have h : (match D.lt m x with | some b => least (fun a b => D.lt b a) (if b then x else m) xs | none => none) = some r := h
    cases e : D.lt m x with
    | none => rw [e] at h; cases h
    | some b =>
      rw [e] at h
      have ex := hx x (by simp)
      have eb := lt_eq 60 60 m x b (plL_mem (uni_pl hu) hm) (plL_mem (uni_pl hu) ex) (uni_alike hu hm ex).1 e
      obtain ⟨h1, h2⟩ := least_max hu xs (if b then x else m) r (by cases b <;> simp [hm, ex]) (fun y hy => hx y (by simp [hy])) h
      refine ⟨h1, ?_⟩
      rw [← h2]
      show PySem.W.maxD (if PySem.W.dataLt (toP m) (toP x) = true then toP x else toP m) (toPL xs) = _
      rw [eb]
      cases b <;> rfl
section
variable {X : Cx} {pins : List (Addr × Obj)} {σ : L2.St} {H : Hp} {s : Shared} {μ : List Addr}
/-- the item that reads as the datum -/
theorem pick_rep (I : Inv X pins σ H s) {ds : List D} {vs : List V} {its : List Value} {r : D} {v : Value} {i : Nat} {h' : Heap} {bs : List Addr} (hu : D.plL 60 ds = true) (hv : Paired (Rep X.K μ H) ds vs) (rv : Vals vs its) (hr : r ∈ ds) (hi : its[i]? = some v)
    (k : ∀ b o, s.heap.get? b = some o → h'.get? b = some o) (rd : Reads h' v (toP r) bs) : ∃ y, Rep X.K μ H r y ∧ RelV y v := by
  obtain ⟨y, h1, h2⟩ : ∃ y, vs[i]? = some y ∧ RelV y v := by
    have go : ∀ {vs : List V} {its : List Value} (i : Nat), Vals vs its → its[i]? = some v → ∃ y, vs[i]? = some y ∧ RelV y v := by
      intro vs its i r
      induction r generalizing i with
      | nil => intro e; simp at e
      | cons a b ih =>
        intro e
        cases i with
        | zero => exact ⟨_, rfl, by cases (show some _ = some v from e); exact a⟩
        | succ i => exact ih i (by simpa using e)
    exact go i rv hi
  obtain ⟨x, h3, h4⟩ : ∃ x, ds[i]? = some x ∧ Rep X.K μ H x y := by
    have go : ∀ {ds : List D} {vs : List V} (i : Nat), Paired (Rep X.K μ H) ds vs → vs[i]? = some y → ∃ x, ds[i]? = some x ∧ Rep X.K μ H x y := by
      intro ds vs i r
      induction r generalizing i with
      | nil => intro e; simp at e
      | cons a b ih =>
        intro e
        cases i with
        | zero => exact ⟨_, rfl, by cases (show some _ = some y from e); exact a⟩
        | succ i => exact ih i (by simpa using e)
    exact go i hv h1
  have hx : x ∈ ds := List.mem_of_getElem? h3
  obtain ⟨as, h5⟩ := rep_reads I 60 x y v (plL_mem hu hx) h4 h2
  have h6 := (PySem.Reads.unique (PyProof.Rows.Reads.keeps k h5) _ _ rd).1
  rw [← toP_inj 60 60 x r (plL_mem hu hx) (plL_mem hu hr) h6]
  exact ⟨y, h4, h2⟩
end
end Ev
end

section
set_option Elab.async false
set_option linter.all false
set_option maxRecDepth 100000
set_option maxHeartbeats 2000000
/-! Snd10c: min, max, sorted. -/
namespace Ev
open PySem PySem.Spec L2
theorem args_max {b : Blt} (hw : walks b = false) {ds : List D} {st st' : Sto} {d : D} (h : bltA b ds st = .ok d st') : (∃ d0, ds = [d0]) ∨ ∃ d0 d1, ds = [d0, d1] := by
  unfold bltA at h
  rw [hw] at h
  match ds, h with
  | [], h => cases h
  | [d0], _ => exact .inl ⟨d0, rfl⟩
  | [d0, d1], _ => exact .inr ⟨d0, d1, rfl⟩
  | x :: y :: z :: r, h => cases h
theorem two_ints {b : Blt} {d0 d1 d : D} {st st' : Sto} (h : blt2 b d0 d1 st = .ok d st') : ∃ i j, d0 = .int i ∧ d1 = .int j := by
  cases d0 <;> first | cases h | skip
  cases d1 <;> first | cases h | skip
  exact ⟨_, _, rfl, rfl⟩
section
variable {X : Cx}
theorem cr_max1 (hc : X.calm = true) (hu : X.A.units + 200 < cLine) : CallR X (.builtin "max") (vBlt X.K .max) := by
  intro pins s σ H xs us Q I r ⟨μ, ds, st, d, st', S, rd, h, p⟩
  rcases args_max rfl h with ⟨d0, rfl⟩ | ⟨d0, d1, rfl⟩
  · obtain ⟨x, rfl, r1⟩ := rl1 rd
    have h : (match rowOf d0 st with | some xs => bltI .max xs st | none => .no) = .ok d st' := h
    cases e : rowOf d0 st with
    | none => rw [e] at h; cases h
    | some ys =>
      rw [e] at h
      obtain ⟨hun, h⟩ := ite_ok (show (if uniform ys = true then (match (generalizing := false) ys with | [] => (R.no : R D) | x :: xs => okO st (least (fun a b => D.lt b a) x xs)) else (R.no : R D)) = .ok d st' from h)
      cases ys with
      | nil => cases h
      | cons y ys =>
        have h : okO st (least (fun a b => D.lt b a) y ys) = .ok d st' := h
        cases e2 : least (fun a b => D.lt b a) y ys with
        | none => rw [e2] at h; cases h
        | some m =>
          rw [e2] at h
          cases h
          obtain ⟨hm, em⟩ := least_max hun ys y d (by simp) (fun x hx => by simp [hx]) e2
          obtain ⟨a, vs, rfl, hv, hk⟩ := row_of S r1 e
          have hd := (plL_plain 60 _ (uni_pl hun)).2
          rw [Vals.ref1 r]
          rcases hk with ⟨l, rfl, ha⟩ | ⟨rfl, its, ha⟩
          · obtain ⟨its, rv, hl, _⟩ := I.list (.inl (.inl ha))
            obtain ⟨as, hr⟩ := repL_reads I 60 _ vs its (uni_pl hun) (RepL.iff.mpr hv) rv
            refine PySem.W.max_list_data (I.ok.hd hc) hl.isList (xs := toPL ys) (x := toP y) (by simpa [toPL] using hr) (uni_all hun) (by have : PyData.depthAll (toP y :: toPL ys) ≤ 60 := hd; omega) fun i v h' tk bs hi rdv k => ?_
            rw [em] at rdv
            obtain ⟨y2, q1, q2⟩ := pick_rep I (uni_pl hun) hv rv hm (by simpa using hi) k rdv
            exact ⟨y2, H, I.kept k, q2, p.here S q1⟩
          · obtain ⟨its, rv, hl, _⟩ := I.tuple (.inl (.inr ⟨_, ha⟩))
            obtain ⟨as, hr⟩ := repL_reads I 60 _ vs its (uni_pl hun) (RepL.iff.mpr hv) rv
            refine PySem.W.max_tuple_data (I.ok.hd hc) hl (xs := toPL ys) (x := toP y) (by simpa [toPL] using hr) (uni_all hun) (by have : PyData.depthAll (toP y :: toPL ys) ≤ 60 := hd; omega) fun i v h' tk bs hi rdv k => ?_
            rw [em] at rdv
            obtain ⟨y2, q1, q2⟩ := pick_rep I (uni_pl hun) hv rv hm (by simpa using hi) k rdv
            exact ⟨y2, H, I.kept k, q2, p.here S q1⟩
  · obtain ⟨x, y, rfl, r1, r2⟩ := rl2 rd
    have h : blt2 .max d0 d1 st = .ok d st' := h
    obtain ⟨i, j, rfl, rfl⟩ := two_ints h
    cases (show R.ok (D.int (if j > i then j else i)) st = .ok d st' from h)
    cases (show x = .int i from r1)
    cases (show y = .int j from r2)
    exact call_max2 hc pins s σ H _ us Q I r ⟨i, j, rfl, p.int S⟩
theorem cr_min1 (hc : X.calm = true) (hu : X.A.units + 200 < cLine) : CallR X (.builtin "min") (vBlt X.K .min) := by
  intro pins s σ H xs us Q I r ⟨μ, ds, st, d, st', S, rd, h, p⟩
  rcases args_max rfl h with ⟨d0, rfl⟩ | ⟨d0, d1, rfl⟩
  · obtain ⟨x, rfl, r1⟩ := rl1 rd
    have h : (match rowOf d0 st with | some xs => bltI .min xs st | none => .no) = .ok d st' := h
    cases e : rowOf d0 st with
    | none => rw [e] at h; cases h
    | some ys =>
      rw [e] at h
      obtain ⟨hun, h⟩ := ite_ok (show (if uniform ys = true then (match (generalizing := false) ys with | [] => (R.no : R D) | x :: xs => okO st (least D.lt x xs)) else (R.no : R D)) = .ok d st' from h)
      cases ys with
      | nil => cases h
      | cons y ys =>
        have h : okO st (least D.lt y ys) = .ok d st' := h
        cases e2 : least D.lt y ys with
        | none => rw [e2] at h; cases h
        | some m =>
          rw [e2] at h
          cases h
          obtain ⟨hm, em⟩ := least_min hun ys y d (by simp) (fun x hx => by simp [hx]) e2
          obtain ⟨a, vs, rfl, hv, hk⟩ := row_of S r1 e
          have hd := (plL_plain 60 _ (uni_pl hun)).2
          rw [Vals.ref1 r]
          rcases hk with ⟨l, rfl, ha⟩ | ⟨rfl, its, ha⟩
          · obtain ⟨its, rv, hl, _⟩ := I.list (.inl (.inl ha))
            obtain ⟨as, hr⟩ := repL_reads I 60 _ vs its (uni_pl hun) (RepL.iff.mpr hv) rv
            refine PySem.W.min_list_data (I.ok.hd hc) hl.isList (xs := toPL ys) (x := toP y) (by simpa [toPL] using hr) (uni_all hun) (by have : PyData.depthAll (toP y :: toPL ys) ≤ 60 := hd; omega) fun i v h' tk bs hi rdv k => ?_
            rw [em] at rdv
            obtain ⟨y2, q1, q2⟩ := pick_rep I (uni_pl hun) hv rv hm (by simpa using hi) k rdv
            exact ⟨y2, H, I.kept k, q2, p.here S q1⟩
          · obtain ⟨its, rv, hl, _⟩ := I.tuple (.inl (.inr ⟨_, ha⟩))
            obtain ⟨as, hr⟩ := repL_reads I 60 _ vs its (uni_pl hun) (RepL.iff.mpr hv) rv
            refine PySem.W.min_tuple_data (I.ok.hd hc) hl (xs := toPL ys) (x := toP y) (by simpa [toPL] using hr) (uni_all hun) (by have : PyData.depthAll (toP y :: toPL ys) ≤ 60 := hd; omega) fun i v h' tk bs hi rdv k => ?_
            rw [em] at rdv
            obtain ⟨y2, q1, q2⟩ := pick_rep I (uni_pl hun) hv rv hm (by simpa using hi) k rdv
            exact ⟨y2, H, I.kept k, q2, p.here S q1⟩
  · obtain ⟨x, y, rfl, r1, r2⟩ := rl2 rd
    have h : blt2 .min d0 d1 st = .ok d st' := h
    obtain ⟨i, j, rfl, rfl⟩ := two_ints h
    cases (show R.ok (D.int (if j < i then j else i)) st = .ok d st' from h)
    cases (show x = .int i from r1)
    cases (show y = .int j from r2)
    exact call_min2 hc pins s σ H _ us Q I r ⟨i, j, rfl, p.int S⟩
end
/-! ### sorting -/
theorem insD_eq {β : Type} {f : β → D} {le : β → β → Bool} (tr : ∀ a b c, le a b = true → le b c = true → le a c = true) {bs : List β} (hlt : ∀ x ∈ bs, ∀ y ∈ bs, ∀ b, D.lt (f y) (f x) = some b → le x y = !b) (x : β) (hx : x ∈ bs) : ∀ (l₁ l₂ : List β) (r : List D), (∀ b ∈ l₁, b ∈ bs) → (∀ b ∈ l₂, b ∈ bs) →
    (∀ b ∈ l₁, (!le x b) = true) → (∀ b ∈ l₂, le x b = true) → insD (f x) ((l₁ ++ l₂).map f) = some r → r = (l₁ ++ x :: l₂).map f
  | [], l₂, r, _, h2, _, g2, h => by
    cases l₂ with
    | nil =>
      cases (show some [f x] = some r from h)
      rfl
    | cons y ys =>
      have h : (match D.lt (f y) (f x) with
        | some true => (match insD (f x) (ys.map f) with | some r => some (f y :: r) | none => none)
        | some false => some (f x :: f y :: ys.map f)
        | none => none) = some r := h
      cases e : D.lt (f y) (f x) with
      | none => rw [e] at h; cases h
      | some b =>
        have hb := hlt x hx y (h2 y (by simp)) b e
        rw [g2 y (by simp)] at hb
        have hb : b = false := by
          cases b with
          | false => rfl
          | true => exact absurd hb (by decide)
        subst hb
        rw [e] at h
        cases h
        rfl
  | z :: l₁, l₂, r, h1, h2, g1, g2, h => by
    have h : (match D.lt (f z) (f x) with
        | some true => (match insD (f x) ((l₁ ++ l₂).map f) with | some r => some (f z :: r) | none => none)
        | some false => some (f x :: f z :: (l₁ ++ l₂).map f)
        | none => none) = some r := h
    cases e : D.lt (f z) (f x) with
    | none => rw [e] at h; cases h
    | some b =>
      have hb := hlt x hx z (h1 z (by simp)) b e
      have hz := g1 z (by simp)
      rw [hb] at hz
      have hb : b = true := by simpa using hz
      subst hb
      rw [e] at h
      have h : (match insD (f x) ((l₁ ++ l₂).map f) with | some r => some (f z :: r) | none => none) = some r := h
      cases e3 : insD (f x) ((l₁ ++ l₂).map f) with
      | none => rw [e3] at h; cases h
      | some r' =>
        rw [e3] at h
        cases h
        rw [insD_eq tr hlt x hx l₁ l₂ r' (fun b hb => h1 b (by simp [hb])) h2 (fun b hb => g1 b (by simp [hb])) g2 e3]
        rfl
theorem sortD_eq {β : Type} {f : β → D} {le : β → β → Bool} (tr : ∀ a b c, le a b = true → le b c = true → le a c = true) (to : ∀ a b, le a b = true ∨ le b a = true) {all : List β} (hlt : ∀ x ∈ all, ∀ y ∈ all, ∀ b, D.lt (f y) (f x) = some b → le x y = !b) : ∀ (bs : List β) (r : List D), (∀ b ∈ bs, b ∈ all) → sortD (bs.map f) = some r → r = (bs.mergeSort le).map f
  | [], r, _, h => by
    cases (show some [] = some r from h)
    simp
  | x :: bs, r, hm, h => by
    have h : (match sortD (bs.map f) with | some r => insD (f x) r | none => none) = some r := h
    cases e : sortD (bs.map f) with
    | none => rw [e] at h; cases h
    | some r1 =>
      rw [e] at h
      have e1 := sortD_eq tr to hlt bs r1 (fun b hb => hm b (by simp [hb])) e
      subst e1
      have to' : ∀ a b, (le a b || le b a) = true := fun a b => Bool.or_eq_true_iff.mpr (to a b)
      obtain ⟨l₁, l₂, m1, m2, m3⟩ := List.mergeSort_cons tr to' x bs
      have pm : ∀ b, b ∈ l₁ ++ l₂ → b ∈ all := fun b hb => hm b (by
        rw [← m2] at hb
        exact List.mem_cons_of_mem _ ((List.mergeSort_perm bs le).mem_iff.mp hb))
      have so := List.pairwise_mergeSort tr to' (x :: bs)
      rw [m1] at so
      have g2 : ∀ b ∈ l₂, le x b = true := fun b hb => by
        have := (List.pairwise_append.mp so).2.1
        exact (List.pairwise_cons.mp this).1 b hb
      rw [m1]
      rw [m2] at h
      exact insD_eq tr hlt x (hm x (by simp)) l₁ l₂ r (fun b hb => pm b (by simp [hb])) (fun b hb => pm b (by simp [hb])) (fun b hb => m3 b hb) g2 h
end Ev
namespace Ev
open PySem PySem.Spec L2 PySem.W PyProof.Rows PySem.Calls
section
variable {prog : Program} {w : World} {A : Around} {E : Value → Shared → Prop} {s : Shared} {β : Type} {R : Value → β → Prop} {enc : β → PyData} {vs : List Value} {bs : List β}
theorem collect_tup {l : Addr} {vs : List Value} {Q : List Value → Shared → Prop} (hl : s.heap.IsTuple l vs.toArray)
    (h : Q vs { s with heap := (s.heap.push (seqObj "list" #[] 0)).update s.heap.objs.size (Obj.mapSeq (· ++ vs.toArray)) }) (hsz : vs.length ≤ sizeLine) :
    wpAny (model prog w) A (collect (.ref l)) Q E s := by
  obtain ⟨o, ho, hc, n, hd⟩ := id hl
  unfold collect
  refine wpAny_bind (wpAny_runValue (codeAny_builtin entry_proto_collect' ?_))
  show wpAny _ _ (do again (.builtin "list.__iadd__" ⟨[← newList [], .ref l], []⟩)) _ _ s
  refine wpAny_bind (wpAny_newList (wpAny_pure ⟨Code.quiet_builtin _ (by decide +kernel), codeAny_builtin entry_list_iadd' ?_⟩))
  show wpAny _ _ (Builtin.List.listExtendWith (.ref s.heap.objs.size) (.ref l) (.ref s.heap.objs.size)) _ _ { s with heap := s.heap.push (seqObj "list" #[] 0) }
  unfold Builtin.List.listExtendWith
  have ho' : (s.heap.push (seqObj "list" #[] 0)).get? l = some o := Heap.get?_push_of_some _ ho
  refine wpAny_bind (wpAny_typeOf (T := "tuple") ⟨o, ho', hc⟩ ?_)
  have ht : (Value.type "tuple" == Value.type "tuple") = true := by rfl
  rw [if_pos (by rw [ht]; simp)]
  refine wpAny_bind (listItems_at ho' hd ?_)
  refine wpAny_bind (listItems_at (xs := #[]) (n := 0) (Heap.get?_push_size _ rfl) rfl ?_)
  rw [if_neg (by simp)]
  refine wpAny_bind (listUpdate_at (xs := #[]) (n := 0) (Heap.get?_push_size _ rfl) rfl ?_ (Nat.zero_le _) (by show (#[] ++ vs.toArray).size ≤ sizeLine + 1; simp only [Array.size_append, List.size_toArray, List.length_nil]; omega))
  refine wpAny_pure ?_
  show wpAny (model prog w) A (do
      let o ← load s.heap.objs.size
      match o.data with
      | .seq xs _ => pure xs.toList
      | _ => unsupported "internal:collect") Q E { s with heap := (s.heap.push (seqObj "list" #[] 0)).update s.heap.objs.size (Obj.mapSeq (· ++ vs.toArray)) }
  refine wpAny_bind (wpAny_load (get?_update_seq (Heap.get?_push_size _ rfl) _) ?_)
  show wpAny _ _ (pure ((#[] : Array Value) ++ vs.toArray).toList) Q E _
  rw [show ((#[] : Array Value) ++ vs.toArray).toList = vs by simp]
  exact wpAny_pure h
theorem sorted_of_tup {l : Addr} {vs : List Value} {kw : List (Str × Value)} {Q : Value → Shared → Prop} (hl : s.heap.IsTuple l vs.toArray) (hL : vs.length ≤ sizeLine) (ha1 : argsOk "sorted" ⟨[.ref l], kw⟩) (ha2 : ∀ x, argsOk "list.sort" ⟨[.ref x], kw⟩)
    (body : ∀ E' : Value → Shared → Prop, wpAny (model prog w) A.in1.in1 (Builtin.«list.sort» ⟨[.ref (s.heap.objs.size + 1)], kw⟩) (fun f s' => f = .done (.ret .none) ∧ Q (.ref (s.heap.objs.size + 1)) s') E' { s with heap := copyHeap s.heap vs }) :
    wpAny (model prog w) A (call (.builtin "sorted") [.ref l] kw) Q E s := by
  refine call_function_entry_kw kind_sorted plain_sorted entry_sorted ha1 ?_
  unfold Builtin.«sorted»
  refine wpAny_bind (m := checkCount "sorted" 1 1 _) (wpAny_pure ?_)
  refine wpAny_bind (collect_tup hl ?_ hL)
  refine wpAny_bind (wpAny_newList ?_ hL)
  have hsz : ((s.heap.push (seqObj "list" #[] 0)).update s.heap.objs.size (Obj.mapSeq (· ++ vs.toArray))).objs.size = s.heap.objs.size + 1 := by
    rw [Heap.size_update, size_push']
  show wpAny _ _ _ _ _ { s with heap := copyHeap s.heap vs }
  rw [hsz]
  refine wpAny_bind (wpAny_holding (wpAny_call_entry_kw slot_list_sort ⟨_, copyHeap_at s.heap vs, rfl⟩ entry_list_sort ?body (ha2 _)))
  case body =>
    show wpAny (model prog w) A.in1.in1 (Builtin.«list.sort» ⟨[.ref (s.heap.objs.size + 1)], kw⟩) _ _ _
    refine wpAny_mono (body _) (fun f s' hf => ?_) fun _ _ e => e
    obtain ⟨rfl, hq⟩ := hf
    exact ⟨_, rfl, wpAny_pure ⟨_, rfl, hq⟩⟩
theorem sorted_tup_data {l : Addr} {Q : Value → Shared → Prop} (hl : s.heap.IsTuple l vs.toArray) (e : EachIs R vs bs) (er : EachIs (fun v b => ∃ as, Reads s.heap v (enc b) as) vs bs) (hal : AllAlike (bs.map enc)) (hk : Sortable (bs.map enc)) (hL : bs.length ≤ sizeLine)
    (hu : ∀ b, b ∈ bs → A.units + 2 + (enc b).depth < cLine) (h : ∀ out, out.length = bs.length → EachIs R out (bs.mergeSort (dataLe false enc)) → Q (.ref (s.heap.objs.size + 1)) { s with heap := sortedAll s.heap vs (List.toArray out) }) :
    wpAny (model prog w) A (call (.builtin "sorted") [.ref l]) Q E s := by
  have er' : EachIs (fun v b => ∃ as, Reads (sortingHeap (copyHeap s.heap vs) (s.heap.objs.size + 1) vs) v (enc b) as) vs bs := er.mono fun _ _ ⟨as, r⟩ => ⟨as, PyProof.Rows.Reads.keeps (fun _ _ => sorting_copy_old) r⟩
  have S := SortsAt.data (prog := prog) (w := w) (A := A.in1.in1) (s := { s with heap := sortingHeap (copyHeap s.heap vs) (s.heap.objs.size + 1) vs }) (each_map (R := fun v d => ∃ as, Reads (sortingHeap (copyHeap s.heap vs) (s.heap.objs.size + 1) vs) v d as) enc er') hal hk (bound_map (A := A.in1.in1) hu)
  have hL' : vs.length ≤ sizeLine := by rw [e.length]; exact hL
  exact sorted_of_tup hl hL' (args_sorted1 _) (fun _ => args_list_sort _) fun _ => list_sort_vals (s := { s with heap := copyHeap s.heap vs }) (copyHeap_at s.heap vs) S hL' ⟨rfl, h _ (by rw [sortVals_length false rfl]; exact e.length) (sortVals_data false e er' hal)⟩
end
end Ev
end

section
set_option Elab.async false
set_option linter.all false
set_option maxRecDepth 100000
set_option maxHeartbeats 2000000
/-! Snd10d: sorted, all. -/
namespace Ev
open PySem PySem.Spec L2
section
variable {X : Cx} {pins : List (Addr × Obj)} {σ : L2.St} {H : Hp} {s : Shared} {μ : List Addr}
theorem zip_rep {K : PySem.W.Frag} : ∀ {ds : List D} {vs : List V}, Paired (Rep K μ H) ds vs → (ds.zip vs).map (·.1) = ds ∧ (ds.zip vs).map (·.2) = vs ∧ ∀ p ∈ ds.zip vs, Rep K μ H p.1 p.2
  | [], _, h => by cases h; exact ⟨rfl, rfl, fun p hp => by cases hp⟩
  | d :: ds, _, h => by
    cases h with
    | cons r t =>
      obtain ⟨h1, h2, h3⟩ := zip_rep t
      refine ⟨by simp [h1], by simp [h2], fun p hp => ?_⟩
      rcases List.mem_cons.mp hp with rfl | hp
      · exact r
      · exact h3 p hp
theorem each_zip {K : PySem.W.Frag} : ∀ {ds : List D} {vs : List V} {its : List Value}, Paired (Rep K μ H) ds vs → Vals vs its → PySem.W.EachIs (fun (v : Value) (p : D × V) => RelV p.2 v) its (ds.zip vs)
  | [], _, _, h, r => by cases h; cases r; exact .nil
  | d :: ds, _, _, h, r => by
    cases h with
    | cons a t =>
      cases r with
      | cons b u => exact .cons b (each_zip t u)
theorem each_vals : ∀ {bs : List (D × V)} {out : List Value}, PySem.W.EachIs (fun (v : Value) (p : D × V) => RelV p.2 v) out bs → Vals (bs.map (·.2)) out
  | _, _, .nil => .nil
  | _, _, .cons a t => .cons a (each_vals t)
theorem paired_map {K : PySem.W.Frag} : ∀ {bs : List (D × V)}, (∀ p ∈ bs, Rep K μ H p.1 p.2) → Paired (Rep K μ H) (bs.map (·.1)) (bs.map (·.2))
  | [], _ => .nil
  | p :: bs, h => .cons (h p (by simp)) (paired_map fun q hq => h q (by simp [hq]))
theorem each_reads (I : Inv X pins σ H s) : ∀ {ds : List D} {vs : List V} {its : List Value}, D.plL 60 ds = true → Paired (Rep X.K μ H) ds vs → Vals vs its → PySem.W.EachIs (fun (v : Value) (p : D × V) => ∃ as, Reads s.heap v (toP p.1) as) its (ds.zip vs)
  | [], _, _, _, h, r => by cases h; cases r; exact .nil
  | d :: ds, _, _, hp, h, r => by
    obtain ⟨h1, h2⟩ := b_and (show (D.pl 60 d && D.plL 60 ds) = true by simpa [D.plL] using hp)
    cases h with
    | cons a t =>
      cases r with
      | cons b u => exact .cons (rep_reads I 60 d _ _ h1 a b) (each_reads I h2 t u)
theorem zip_mem {ds : List D} {vs : List V} {p : D × V} (h : p ∈ ds.zip vs) : p.1 ∈ ds := (List.of_mem_zip h).1
theorem depth_mem {p : PyData} : ∀ {xs : List PyData}, p ∈ xs → p.depth ≤ PyData.depthAll xs
  | [], h => by cases h
  | x :: xs, h => by
    rw [PyData.depthAll]
    rcases List.mem_cons.mp h with rfl | h
    · omega
    · have := depth_mem h
      omega
theorem sortable_of {ds : List D} (hu : uniform ds = true) (h : (ds.all D.isTup1 || ds.all fun x => !D.isTup x) = true) {bs : List (D × V)} (hb : ∀ p ∈ bs, p.1 ∈ ds) : PySem.W.Sortable (bs.map fun p => toP p.1) := by
  rcases b_or h with h | h
  · refine .inl fun d hd => ?_
    obtain ⟨p, hp, rfl⟩ := List.mem_map.mp hd
    have h1 := List.all_eq_true.mp h p.1 (hb p hp)
    cases e : p.1 with
    | tup xs =>
      rw [e] at h1
      cases xs with
      | nil => cases h1
      | cons y ys => exact ⟨toP y, toPL ys, by rw [toP, toPL]⟩
    | _ => rw [e] at h1; cases h1
  · refine .inr fun d hd => ?_
    obtain ⟨p, hp, rfl⟩ := List.mem_map.mp hd
    have hm := hb p hp
    have h1 := List.all_eq_true.mp h p.1 hm
    refine ⟨toP_non (plL_mem (uni_pl hu) hm) (uni_alike hu hm hm).2, fun xs e => ?_⟩
    cases e2 : p.1 with
    | tup ys => rw [e2] at h1; cases h1
    | _ => rw [e2] at e; simp [toP] at e
theorem dle_tr {β : Type} (enc : β → PyData) (a b c : β) : PySem.W.dataLe false enc a b = true → PySem.W.dataLe false enc b c = true → PySem.W.dataLe false enc a c = true := (PySem.W.sortLe_total _ false _).trans a b c
theorem dle_to {β : Type} (enc : β → PyData) (a b : β) : PySem.W.dataLe false enc a b = true ∨ PySem.W.dataLe false enc b a = true := (PySem.W.sortLe_total _ false _).total a b
theorem cr_sorted1 (hu : X.A.units + 200 < cLine) : CallR X (.builtin "sorted") (vBlt X.K .sorted) := by
  intro pins s σ H xs us Q I r ⟨μ, ds, st, d, st', S, rd, h, p⟩
  obtain ⟨d0, rfl⟩ := one_arg rfl h
  obtain ⟨x, rfl, r1⟩ := rl1 rd
  have h : (match rowOf d0 st with | some xs => bltI .sorted xs st | none => .no) = .ok d st' := h
  cases e : rowOf d0 st with
  | none => rw [e] at h; cases h
  | some ys =>
    rw [e] at h
    obtain ⟨hb, h⟩ := ite_ok (show (if (uniform ys && (ys.all D.isTup1 || ys.all fun x => !D.isTup x) && small ys.length) = true then (match sortD ys with | some r => new (.lst r) st | none => (R.no : R D)) else (R.no : R D)) = .ok d st' from h)
    obtain ⟨hb, hsm⟩ := b_and hb
    obtain ⟨hun, hso⟩ := b_and hb
    have h : (match sortD ys with | some r => new (.lst r) st | none => (R.no : R D)) = .ok d st' := h
    cases e2 : sortD ys with
    | none => rw [e2] at h; cases h
    | some rr =>
      rw [e2] at h
      obtain ⟨rfl, rfl⟩ := new_ok h
      obtain ⟨a, vs, rfl, hv, hk⟩ := row_of S r1 e
      obtain ⟨z1, z2, z3⟩ := zip_rep hv
      have hlen : (ys.zip vs).length ≤ sizeLine := by
        have : (ys.zip vs).length = ys.length := by rw [← List.length_map (f := (·.1)), z1]
        rw [this]
        exact small_iff hsm
      have hdep : ∀ b ∈ ys.zip vs, X.A.units + 2 + (toP b.1).depth < cLine := fun b hb => by
        have h1 := (pl_plain 60 b.1 (plL_mem (uni_pl hun) (zip_mem hb))).2
        omega
      have hal : PySem.W.AllAlike ((ys.zip vs).map fun p => toP p.1) := fun d1 h1 d2 h2 => by
        obtain ⟨p1, q1, rfl⟩ := List.mem_map.mp h1
        obtain ⟨p2, q2, rfl⟩ := List.mem_map.mp h2
        exact alike_eq _ _ (uni_alike hun (zip_mem q1) (zip_mem q2)).1
      have hsrt := sortable_of (bs := ys.zip vs) hun hso fun p hp => zip_mem hp
      have er : rr = ((ys.zip vs).mergeSort (PySem.W.dataLe false fun p : D × V => toP p.1)).map (·.1) := by
        refine sortD_eq (f := fun p : D × V => p.1) (dle_tr _) (dle_to _) (all := ys.zip vs) (fun x hx y hy b hlt => ?_) (ys.zip vs) rr (fun b hb => hb) (by rw [z1]; exact e2)
        have h1 := lt_eq 60 60 y.1 x.1 b (plL_mem (uni_pl hun) (zip_mem hy)) (plL_mem (uni_pl hun) (zip_mem hx)) (uni_alike hun (zip_mem hy) (zip_mem hx)).1 hlt
        show (!PySem.W.dataLt (toP y.1) (toP x.1)) = !b
        rw [h1]
      have fin : ∀ (its : List Value), Vals vs its → ∀ out : List Value, out.length = (ys.zip vs).length → PySem.W.EachIs (fun (v : Value) (p : D × V) => RelV p.2 v) out ((ys.zip vs).mergeSort (PySem.W.dataLe false fun p : D × V => toP p.1)) →
          EP X pins σ Q (.ref (s.heap.objs.size + 1)) { s with heap := PyProof.Rows.sortedAll s.heap its (List.toArray out) } := fun its rv out hol ho => by
        obtain ⟨ep, he'⟩ := PyProof.Rows.sortedAll_at s.heap its out.toArray
        have pm := List.mergeSort_perm (ys.zip vs) (PySem.W.dataLe false fun p : D × V => toP p.1)
        have hl2 : (((ys.zip vs).mergeSort (PySem.W.dataLe false fun p : D × V => toP p.1)).map (·.2)).length ≤ sizeLine := by
          rw [List.length_map, pm.length_eq]
          exact hlen
        have pr : Paired (Rep X.K μ H) rr (((ys.zip vs).mergeSort (PySem.W.dataLe false fun p : D × V => toP p.1)).map (·.2)) := by
          rw [er]
          exact paired_map fun p hp => z3 p (pm.mem_iff.mp hp)
        exact ⟨.ref _, upd H (s.heap.objs.size + 1) (.lst _), I.laid (t' := s.toks) (fun _ _ => PyProof.Rows.sortedAll_old) (Nat.le_succ _) ⟨hl2, out, ep, each_vals ho, he'⟩, rfl, p.lay S (ho := .lst _) (fun z => z) (obj_lst S pr) _ (I.hok.fresh (Nat.le_succ _))⟩
      rw [Vals.ref1 r]
      rcases hk with ⟨l, rfl, ha⟩ | ⟨rfl, its0, ha⟩
      · obtain ⟨its, rv, hl, _⟩ := I.list (.inl (.inl ha))
        exact PySem.W.sorted_data hl.isList (each_zip hv rv) (each_reads I (uni_pl hun) hv rv) hal hsrt hlen hdep (fin its rv)
      · obtain ⟨its, rv, hl, _⟩ := I.tuple (.inl (.inr ⟨_, ha⟩))
        exact sorted_tup_data hl (each_zip hv rv) (each_reads I (uni_pl hun) hv rv) hal hsrt hlen hdep (fin its rv)
theorem allB_bs : ∀ (xs : List D) (c : Bool), allB xs = some c → ∃ bs : List Bool, xs = bs.map D.bl ∧ c = bs.all id
  | [], c, h => ⟨[], rfl, by cases (show some true = some c from h); rfl⟩
  | x :: xs, c, h => by
    cases x with
    | bl b =>
      have h : (match allB xs with | some c => some (b && c) | none => none) = some c := h
      cases e : allB xs with
      | none => rw [e] at h; cases h
      | some k =>
        rw [e] at h
        cases h
        obtain ⟨bs, rfl, rfl⟩ := allB_bs xs k e
        exact ⟨b :: bs, rfl, rfl⟩
    | _ => cases h
theorem anyB_bs : ∀ (xs : List D) (c : Bool), anyB xs = some c → ∃ bs : List Bool, xs = bs.map D.bl ∧ c = bs.any id
  | [], c, h => ⟨[], rfl, by cases (show some false = some c from h); rfl⟩
  | x :: xs, c, h => by
    cases x with
    | bl b =>
      have h : (match anyB xs with | some c => some (b || c) | none => none) = some c := h
      cases e : anyB xs with
      | none => rw [e] at h; cases h
      | some k =>
        rw [e] at h
        cases h
        obtain ⟨bs, rfl, rfl⟩ := anyB_bs xs k e
        exact ⟨b :: bs, rfl, rfl⟩
    | _ => cases h
theorem bls_rep {K : PySem.W.Frag} : ∀ {bs : List Bool} {vs : List V}, Paired (Rep K μ H) (bs.map D.bl) vs → vs = bs.map V.bl
  | [], _, h => by cases h; rfl
  | n :: ns, _, h => by
    cases h with
    | cons r t =>
      cases (show _ = V.bl n from r)
      rw [bls_rep t]
      rfl
theorem bls_pl : ∀ bs : List Bool, D.plL 60 (bs.map D.bl) = true
  | [] => rfl
  | b :: bs => by
    rw [List.map_cons, D.plL, bls_pl bs]
    rfl
theorem bls_toP (bs : List Bool) : toPL (bs.map D.bl) = bs.map PyData.bool := by
  rw [toPL_map, List.map_map]
  rfl
theorem cr_all1 (hc : X.calm = true) : CallR X (.builtin "all") (vBlt X.K .all) := by
  intro pins s σ H xs us Q I r ⟨μ, ds, st, d, st', S, rd, h, p⟩
  obtain ⟨d0, rfl⟩ := one_arg rfl h
  obtain ⟨x, rfl, r1⟩ := rl1 rd
  have h : (match rowOf d0 st with | some xs => bltI .all xs st | none => .no) = .ok d st' := h
  cases e : rowOf d0 st with
  | none => rw [e] at h; cases h
  | some ys =>
    rw [e] at h
    have h : ofB st (allB ys) = .ok d st' := h
    cases e2 : allB ys with
    | none => rw [e2] at h; cases h
    | some c =>
      rw [e2] at h
      cases h
      obtain ⟨bs, rfl, rfl⟩ := allB_bs ys c e2
      obtain ⟨a, vs, rfl, hv, hk⟩ := row_of S r1 e
      have hvs := bls_rep hv
      subst hvs
      rcases hk with ⟨l, rfl, ha⟩ | ⟨rfl, its, ha⟩
      · exact cr_all hc pins s σ H _ us Q I r ⟨a, bs, rfl, .inl (.inl ha), p.bl S⟩
      · obtain ⟨its, rv, hl, _⟩ := I.tuple (.inl (.inr ⟨_, ha⟩))
        obtain ⟨as, hr⟩ := repL_reads I 60 _ _ its (bls_pl bs) (RepL.iff.mpr hv) rv
        rw [Vals.ref1 r]
        rw [bls_toP] at hr
        refine PySem.W.all_tuple_data (I.ok.hd hc) hl (by simpa using hr) (by rw [← bls_toP]; exact (plL_plain 60 _ (bls_pl bs)).1) (fun x hx => ?_) fun h' tk k => ?_
        · obtain ⟨b, _, rfl⟩ := List.mem_map.mp hx
          simp [PyData.fits63]
        · refine ⟨.bl _, H, I.kept k, ?_, p.bl S⟩
          show Value.bool _ = Value.bool _
          rw [List.all_map]
          rfl
end
end Ev
end

section
set_option Elab.async false
set_option linter.all false
set_option maxRecDepth 100000
set_option maxHeartbeats 2000000
/-! Snd11: the calls of built-ins and of methods, as expressions. -/
namespace Ev
open PySem PySem.Spec L2
def bltN : Blt → Str
  | .len => "len" | .range => "range" | .tuple => "tuple" | .list => "list" | .set => "set" | .dict => "dict" | .sorted => "sorted" | .min => "min" | .max => "max" | .sum => "sum" | .abs => "abs" | .int => "int" | .str => "str"
  | .enumerate => "enumerate" | .zip => "zip" | .reversed => "reversed" | .all => "all" | .any => "any" | .ord => "ord" | .factorial => "factorial" | .gcd => "gcd" | .lcm => "lcm"
/-- the built-in functions, the built-in types that have a rule here -/
def bltF : Blt → Option String
  | .len => some "len" | .abs => some "abs" | .ord => some "ord" | .sum => some "sum" | .min => some "min" | .max => some "max" | .sorted => some "sorted" | .all => some "all"
  | _ => none
def bltT : Blt → Option String
  | .tuple => some "tuple" | .list => some "list" | .int => some "int" | .str => some "str"
  | _ => none
theorem star_any {env : PySem.Env} {pos : Pos} : ∀ {es : List Expr}, nsts es = true → (backTo pos (starEach es env)).any (·.1) = false
  | [], _ => rfl
  | e :: es, h => by
    obtain ⟨h1, h2⟩ := b_and h
    rw [star_cons h1]
    show (false || (backTo pos (starEach es env)).any (·.1)) = false
    rw [star_any h2]
    rfl
theorem star_all {env : PySem.Env} {pos : Pos} : ∀ {es : List Expr}, nsts es = true → (backTo pos (starEach es env)).all (fun x => !x.1) = true
  | [], _ => rfl
  | e :: es, h => by
    obtain ⟨h1, h2⟩ := b_and h
    rw [star_cons h1]
    show (true && (backTo pos (starEach es env)).all (fun x => !x.1)) = true
    rw [star_all h2]
    rfl
/-- not super() -/
def nsup : Expr → Bool
  | .Call f args kws _ => (match args with | [] => (match kws with | [] => (match f with | .Name .. => false | _ => true) | _ :: _ => true) | _ :: _ => true)
  | _ => true
theorem nsup_ok {o : Expr} (h : nsup o = true) (m : Str) (env : PySem.Env) : attributeBase o m env (eval o env) = eval o env := by
  cases o <;> try rfl
  rename_i f args kws p
  cases f <;> cases args <;> cases kws <;> first | rfl | exact absurd h Bool.false_ne_true
section
variable {X : Cx} {Z : ZT} {P : List Fn} {n : Nat} {r rc : Ev} {a b c : E} {xa xb xc : Expr} {pos p apos : Pos} {es : List Expr} {x : Str}
theorem cr_fun (hc : X.calm = true) (hu : X.A.units + 200 < cLine) {b : Blt} {f : String} (h : bltF b = some f) : CallR X (.builtin f) (vBlt X.K b) ∧ bootBuiltins (bltN b) = some (.builtin f) := by
  cases b <;> cases h
  · exact ⟨cr_len, PySem.boot_len⟩
  · exact ⟨cr_sorted1 hu, by decide +kernel⟩
  · exact ⟨cr_min1 hc hu, by decide +kernel⟩
  · exact ⟨cr_max1 hc hu, by decide +kernel⟩
  · exact ⟨cr_sum1 hc, by decide +kernel⟩
  · exact ⟨cr_abs, PyProof.Rows.boot_abs⟩
  · exact ⟨cr_all1 hc, by decide +kernel⟩
  · exact ⟨cr_ord, PyProof.Rows.boot_ord⟩
theorem cr_type {b : Blt} {f : String} (h : bltT b = some f) : CallR X (.type f) (vBlt X.K b) ∧ bootBuiltins (bltN b) = some (.type f) := by
  cases b <;> cases h
  · exact ⟨cr_tuple, PyProof.Rows.boot_tuple⟩
  · exact ⟨cr_list, PyProof.Rows.boot_list⟩
  · exact ⟨cr_int, PyProof.Rows.boot_int⟩
  · exact ⟨cr_str, PyProof.Rows.boot_str⟩
theorem blt_core {b : Blt} {as : E} (hz : ZMono Z) (hr : asRng (oneE as) = none) {σ : L2.St} {H : Hp} {Q : VK} (h : tE X.K Z (step P n r rc) (.blt b as) σ H Q) : tCB (vBlt X.K b) (tEs X.K Z r as) σ H Q := by
  obtain ⟨μ, env, st, hE, hS, h⟩ := h
  have h : ((r.es as env st).bind fun ds st => (bltA b ds st).val).pst (fun d st' => Post X.K μ H d st' Q) (Z μ H) := by
    have e : (step P n r rc).e (.blt b as) env st = (r.es as env st).bind fun ds st => (bltA b ds st).val := by
      show (match asRng (oneE as) with | some as => _ | none => (r.es as env st).bind fun ds st => (bltA b ds st).val) = _
      rw [hr]
    rw [← e]
    exact h
  exact seqA hz hE hS h fun ds st1 μ1 vs H1 L1 r1 S1 h1 => by
    obtain ⟨d, st2, e, q⟩ := pst_val h1
    exact ⟨μ1, ds, st1, d, st2, S1, r1, e, q.mono L1⟩
theorem e_blt {b : Blt} {as : E} (hc : X.calm = true) (hu : X.A.units + 200 < cLine) (hz : ZMono Z) (hf : (bltF b).isSome = true ∨ (bltT b).isSome = true) (hr : asRng (oneE as) = none) (hg : Gl X (bltN b)) (hm : X.mg (bltN b) = none) (ha : PA X (xa :: es) (tEs X.K Z r as)) (hs : nsts (xa :: es) = true) :
    PE X (.Call (.Name (bltN b) p) (xa :: es) [] pos) (tE X.K Z (step P n r rc) (.blt b as)) := by
  obtain ⟨h1, h2⟩ := b_and hs
  rcases hf with hf | hf
  · cases e : bltF b with
    | none => rw [e] at hf; cases hf
    | some f =>
      obtain ⟨g1, g2⟩ := cr_fun (X := X) hc hu e
      exact impE (pe_callB g1 hg hm g2 ha (by cases b <;> first | decide | cases e) (by cases b <;> first | decide | cases e) (star_cons h1) (star_any h2)) fun σ H Q h => blt_core hz hr h
  · cases e : bltT b with
    | none => rw [e] at hf; cases hf
    | some f =>
      obtain ⟨g1, g2⟩ := cr_type (X := X) e
      exact impE (pe_callTy g1 hg hm g2 ha (by cases b <;> first | decide | cases e) (by cases b <;> first | decide | cases e) (star_cons h1) (star_any h2)) fun σ H Q h => blt_core hz hr h
/-! ### methods -/
theorem e_mth {m : Mth} {as : E} (hu : X.A.units + 200 < cLine) (hz : ZMono Z) (ho : PE X xa (tE X.K Z r a)) (ha : PA X es (tEs X.K Z r as)) (hs : nsts es = true) (hsup : nsup xa = true) (hl : (apos.endLine == pos.line) = true) (hn : es.length < 29) :
    PE X (.Call (.Attribute xa (mthN m) apos) es [] pos) (tE X.K Z (step P n r rc) (.mth m a as)) := by
  refine ⟨fun pins s σ H Q I ⟨μ, env, st, hE, hS, h⟩ => ?_⟩
  have h : ((r.e a env st).bind fun x st => (match kdOf x st with | some k => if hasM k m = true then (r.es as env st).bind fun ds st => (mthV k m x ds st).val else .no | none => .no)).pst (fun d st' => Post X.K μ H d st' Q) (Z μ H) := h
  have hfew : ((backTo pos (starEach es X.env)).all (fun x => !x.1) && (backToKw pos (keywordEach [] X.env)).all (fun x => x.1.isSome) && decide (es.length + ([] : List Keyword).length + (if ([] : List Keyword).isEmpty then 0 else 1) < 30)) = true := by
    rw [star_all hs]
    simp [keywordEach, backToKw]
    omega
  refine wpAny_Call_method_late (nsup_ok hsup _ _) hfew hl rfl (thn (ho.run pins s σ H (fun v H1 => ∃ μ1 d st1, Le μ H μ1 H1 ∧ StR X.K μ1 H1 st1 ∧ Rep X.K μ1 H1 d v ∧
    (match kdOf d st1 with | some k => if hasM k m = true then (r.es as env st1).bind fun ds st => (mthV k m d ds st).val else R.no | none => R.no).pst (fun d st' => Post X.K μ H d st' Q) (Z μ1 H1)) I (seqE hz hE hS h fun d st1 μ1 v H1 L1 r1 S1 h1 => ⟨μ1, d, st1, L1, S1, r1, h1⟩)) fun v s1 ⟨x, H1, I1, rx, μ1, d, st1, L1, S1, rd, hw⟩ => ?_)
  cases ek : kdOf d st1 with
  | none => rw [ek] at hw; exact hw.elim
  | some k =>
    rw [ek] at hw
    obtain ⟨hh, hw⟩ := pst_ite (show (if hasM k m = true then (r.es as env st1).bind fun ds st => (mthV k m d ds st).val else R.no).pst (fun d st' => Post X.K μ H d st' Q) (Z μ1 H1) from hw)
    obtain ⟨t1, t2⟩ := kd_is I1 S1 rd rx ek
    have hA := ha.run pos pins s1 σ H1 (fun vs H2 => ∃ μ2 ds st2, Le μ H μ2 H2 ∧ StR X.K μ2 H2 st2 ∧ Rep X.K μ2 H2 d x ∧ RepL X.K μ2 H2 ds vs ∧
      (mthV k m d ds st2).val.pst (fun d st' => Post X.K μ H d st' Q) (Z μ2 H2)) I1 (seqA hz (hE.mono L1) S1 hw fun ds st2 μ2 vs H2 L2 r2 S2 h2 => ⟨μ2, ds, st2, Le.trans L1 L2, S2, rd.mono L2, r2, h2⟩)
    obtain ⟨id, pa, slot, hty, hm⟩ := mth_all (X := X) hu hh
    refine ⟨kdT k, id, pa, slot, hty, t1, t2, ?_⟩
    have fin : ∀ us s2, AP X pins σ (fun vs H2 => ∃ μ2 ds st2, Le μ H μ2 H2 ∧ StR X.K μ2 H2 st2 ∧ Rep X.K μ2 H2 d x ∧ RepL X.K μ2 H2 ds vs ∧ (mthV k m d ds st2).val.pst (fun d st' => Post X.K μ H d st' Q) (Z μ2 H2)) us s2 →
        wpAny (model X.prog X.w) X.A (call (.builtin id) (v :: us)) (EP X pins σ Q) X.xe s2 := fun us s2 ⟨vs, H2, I2, r2, μ2, ds, st2, L2, S2, rd2, rds, h2⟩ => by
      obtain ⟨d3, st3, e, q⟩ := pst_val h2
      exact hm pins s2 σ H2 x vs v us Q I2 rx r2 ⟨μ2, d, ds, st2, d3, st3, S2, rd2, rds, e, q.mono L2⟩
    cases es with
    | nil =>
      refine Calls.callWith_builtin rfl ?_
      unfold evalArgs
      show wpAny _ _ (spliced [] >>= _) _ _ s1
      refine wpAny_bind (thn (show wpAny (model X.prog X.w) X.A (spliced []) _ X.xe s1 from hA) fun vs s' h' => ?_)
      refine wpAny_holding ?_
      exact wpAny_bind (wpAny_pure (wpAny_bind (wpAny_pure (wpAny_pure (fin vs s' h')))))
    | cons e es =>
      obtain ⟨n1, n2⟩ := b_and hs
      rw [star_cons n1] at hA ⊢
      refine Calls.callWith_builtin (by show (false || (backTo pos (starEach es X.env)).any (·.1)) = false; rw [star_any n2]; rfl) (Calls.evalArgs_plain ?_)
      exact thn hA fun us s2 q => fin us s2 q
end
end Ev
end

section
set_option Elab.async false
set_option linter.all false
set_option maxRecDepth 100000
set_option maxHeartbeats 2000000
/-! Snd11b: list and tuple of a range; rows turned round. -/
namespace L2
open PySem PySem.Spec PyProof.Rows
theorem pe_tupRgF {X : Cx} {e : Expr} {te : St → Hp → (Int → Int → Hp → Prop) → Prop} {p pos : Pos} (hc : X.calm = true) (hg : Gl X "tuple") (hm : X.mg "tuple" = none) (he : PRg X e te) (na : starEach [e] X.env = (false, eval e X.env) :: starEach [] X.env) :
    PE X (.Call (.Name "tuple" p) [e] [] pos) (fun σ H Q => te σ H fun a b H1 => RgOk a b ∧ ∀ its q, H1 q = none → Q (.ref q) (upd H1 q (.frz (Ev.tupO its) (.tup (rgV a b))))) := by
  refine ⟨fun pins s σ H Q I h => ?_⟩
  refine Call_ (ld_blt I hg hm boot_tuple (PyProof.Rows.callWith_type1 (args_cons (thn (he pins s σ H _ I h) fun x s1 ⟨r, a, b, t, u, v, H1, ex, hr, I1, ok, q⟩ => args_nil ?_) na) na))
  subst ex
  obtain ⟨b1, b2, b3, b4, b5⟩ := ok
  refine call_tuple_range (n := (b - a).toNat) (I1.ok.hd hc) hr (small_one b1 b2 b3 b4) (rangeSize_nat a b) b5 fun h' tk acc hk hi => ?_
  have I2 : Inv X pins σ H1 { s1 with heap := h', toks := tk } := I1.kept hk
  have hz : (rgV a b).length ≤ sizeLine := by rw [rgV_length, sizeLine_eq]; omega
  have J := Ev.tup_push (tk := tk) I2 (vals_rg hi) hz
  exact ⟨.ref h'.objs.size, _, J, rfl, q _ _ (I2.hok.fresh (Nat.le_refl _))⟩
end L2
namespace Ev
open PySem PySem.Spec L2
theorem paired_rg {K : PySem.W.Frag} {μ : List Addr} {H : Hp} : ∀ (m : Nat) (a : Int), Paired (Rep K μ H) (intsFrom a m) ((List.range m).map fun i => V.int (a + (i : Nat)))
  | 0, _ => .nil
  | m + 1, a => by
    rw [List.range_succ_eq_map, List.map_cons, List.map_map, intsFrom]
    have h := paired_rg (K := K) (μ := μ) (H := H) m (a + 1)
    have e : ((fun i : Nat => V.int (a + (i : Int))) ∘ Nat.succ) = fun i : Nat => V.int (a + 1 + (i : Int)) := by
      funext i
      show V.int (a + ((i + 1 : Nat) : Int)) = V.int (a + 1 + (i : Int))
      congr 1
      omega
    rw [e]
    exact .cons (by show V.int (a + ((0 : Nat) : Int)) = V.int a; simp) h
theorem len_ints : ∀ (n : Nat) (a : Int), (intsFrom a n).length = n
  | 0, _ => rfl
  | n + 1, a => by rw [intsFrom, List.length_cons, len_ints n]
theorem in62' {n : Int} (h : inR62 n = true) : -(2 ^ 62) ≤ n ∧ n < 2 ^ 62 := by
  obtain ⟨h1, h2⟩ := b_and h
  have h1 := of_decide_eq_true h1
  have h2 := of_decide_eq_true h2
  omega
theorem rg_small {a b : Int} (h1 : inR62 a = true) (h2 : inR62 b = true) (h : small (intsFrom a (b - a).toNat).length = true) : RgOk a b := by
  have g1 := in62' h1
  have g2 := in62' h2
  rw [len_ints] at h
  have h3 := small_iff h
  rw [sizeLine_eq] at h3
  exact ⟨g1.1, g1.2, g2.1, g2.2, by omega⟩
section
variable {X : Cx} {Z : ZT} {P : List Fn} {n : Nat} {r rc : Ev} {a b c : E} {xa xb xc : Expr} {pos p p2 pos2 : Pos} {es : List Expr} {x : Str}
/-- a list of a range -/
theorem e_listR {as : E} {args : List Expr} (hc : X.calm = true) (hz : ZMono Z) (hg : Gl X "list") (hm : X.mg "list" = none) (hg2 : Gl X "range") (hm2 : X.mg "range" = none)
    (ha : (∃ a xa, as = .cons a .nil ∧ args = [xa] ∧ PE X xa (tE X.K Z r a) ∧ nst xa = true) ∨ ∃ a b xa xb, as = .cons a (.cons b .nil) ∧ args = [xa, xb] ∧ PE X xa (tE X.K Z r a) ∧ PE X xb (tE X.K Z r b) ∧ nst xa = true ∧ nst xb = true) :
    PE X (.Call (.Name "list" p) [.Call (.Name "range" p2) args [] pos2] [] pos) (tE X.K Z (step P n r rc) (.blt .list (.cons (.blt .range as) .nil))) := by
  rcases ha with ⟨a, xa, rfl, rfl, ha, hn⟩ | ⟨a, b, xa, xb, rfl, rfl, ha, hb, hn, hn2⟩
  · refine impE (pe_listRg hc hg hm (prg_1 hg2 hm2 ha (star_cons hn)) rfl) fun σ H Q ⟨μ, env, st, hE, hS, h⟩ => ?_
    have h : (((r.e a env st).bind fun x st => (match x with | .int n => if inR62 n = true then R.ok (intsFrom 0 n.toNat) st else .no | _ => .no)).bind fun xs st => if small xs.length = true then new (.lst xs) st else .no).pst (fun d st' => Post X.K μ H d st' Q) (Z μ H) := h
    refine seqE hz hE hS (pst_bind h) fun d st1 μ1 v H1 L1 r1 S1 h1 => ?_
    cases d with
    | int j =>
      obtain ⟨hj, q⟩ := pst_ite (show (if inR62 j = true then R.ok (intsFrom 0 j.toNat) st1 else .no).pst _ _ from h1)
      obtain ⟨hs, q⟩ := pst_ite (show (if small (intsFrom 0 j.toNat).length = true then new (.lst (intsFrom 0 j.toNat)) st1 else .no).pst _ _ from q)
      cases (show v = .int j from r1)
      have e0 : (j - 0).toNat = j.toNat := by rw [Int.sub_zero]
      refine ⟨j, rfl, rg_small (by decide) hj (by rw [e0]; exact hs), ?_⟩
      have q : Post X.K μ H (.ref st1.length) (st1 ++ [.lst (intsFrom 0 j.toNat)]) Q := q
      rw [← e0] at q
      exact (q.mono L1).lay S1 (fun z => z) (obj_lst S1 (paired_rg _ 0))
    | _ => exact h1.elim
  · refine impE (pe_listRg hc hg hm (prg_2 hg2 hm2 ha hb (star_cons hn) (star_cons hn2) (by rw [star_cons hn2]; rfl)) rfl) fun σ H Q ⟨μ, env, st, hE, hS, h⟩ => ?_
    have h : (((r.e a env st).bind fun x st => (r.e b env st).bind fun y st => (match x with | .int lo => (match y with | .int hi => if (inR62 lo && inR62 hi) = true then R.ok (intsFrom lo (hi - lo).toNat) st else .no | _ => .no) | _ => .no)).bind fun xs st => if small xs.length = true then new (.lst xs) st else .no).pst (fun d st' => Post X.K μ H d st' Q) (Z μ H) := h
    refine seqE hz hE hS (pst_bind h) fun d st1 μ1 v H1 L1 r1 S1 h1 => seqE hz (hE.mono L1) S1 h1 fun d2 st2 μ2 v2 H2 L2 r2 S2 h2 => ?_
    cases d with
    | int i =>
      cases d2 with
      | int j =>
        obtain ⟨hj, q⟩ := pst_ite (show (if (inR62 i && inR62 j) = true then R.ok (intsFrom i (j - i).toNat) st2 else .no).pst _ _ from h2)
        obtain ⟨hs, q⟩ := pst_ite (show (if small (intsFrom i (j - i).toNat).length = true then new (.lst (intsFrom i (j - i).toNat)) st2 else .no).pst _ _ from q)
        obtain ⟨h5, h6⟩ := b_and hj
        cases (show v = .int i from r1)
        cases (show v2 = .int j from r2)
        refine ⟨i, j, rfl, rfl, rg_small h5 h6 hs, ?_⟩
        have q : Post X.K μ H (.ref st2.length) (st2 ++ [.lst (intsFrom i (j - i).toNat)]) Q := q
        exact (q.mono (L1.trans L2)).lay S2 (fun z => z) (obj_lst S2 (paired_rg _ i))
      | _ => exact h2.elim
    | _ => exact h2.elim
/-- a tuple of a range -/
theorem e_tupR {as : E} {args : List Expr} (hc : X.calm = true) (hz : ZMono Z) (hg : Gl X "tuple") (hm : X.mg "tuple" = none) (hg2 : Gl X "range") (hm2 : X.mg "range" = none)
    (ha : (∃ a xa, as = .cons a .nil ∧ args = [xa] ∧ PE X xa (tE X.K Z r a) ∧ nst xa = true) ∨ ∃ a b xa xb, as = .cons a (.cons b .nil) ∧ args = [xa, xb] ∧ PE X xa (tE X.K Z r a) ∧ PE X xb (tE X.K Z r b) ∧ nst xa = true ∧ nst xb = true) :
    PE X (.Call (.Name "tuple" p) [.Call (.Name "range" p2) args [] pos2] [] pos) (tE X.K Z (step P n r rc) (.blt .tuple (.cons (.blt .range as) .nil))) := by
  rcases ha with ⟨a, xa, rfl, rfl, ha, hn⟩ | ⟨a, b, xa, xb, rfl, rfl, ha, hb, hn, hn2⟩
  · refine impE (pe_tupRgF hc hg hm (prg_1 hg2 hm2 ha (star_cons hn)) rfl) fun σ H Q ⟨μ, env, st, hE, hS, h⟩ => ?_
    have h : (((r.e a env st).bind fun x st => (match x with | .int n => if inR62 n = true then R.ok (intsFrom 0 n.toNat) st else .no | _ => .no)).bind fun xs st => if small xs.length = true then R.ok (D.tup xs) st else .no).pst (fun d st' => Post X.K μ H d st' Q) (Z μ H) := h
    refine seqE hz hE hS (pst_bind h) fun d st1 μ1 v H1 L1 r1 S1 h1 => ?_
    cases d with
    | int j =>
      obtain ⟨hj, q⟩ := pst_ite (show (if inR62 j = true then R.ok (intsFrom 0 j.toNat) st1 else .no).pst _ _ from h1)
      obtain ⟨hs, q⟩ := pst_ite (show (if small (intsFrom 0 j.toNat).length = true then R.ok (D.tup (intsFrom 0 j.toNat)) st1 else .no).pst _ _ from q)
      cases (show v = .int j from r1)
      have e0 : (j - 0).toNat = j.toNat := by rw [Int.sub_zero]
      refine ⟨j, rfl, rg_small (by decide) hj (by rw [e0]; exact hs), ?_⟩
      have q : Post X.K μ H (.tup (intsFrom 0 j.toNat)) st1 Q := q
      rw [← e0] at q
      exact fun its p hp => (q.mono L1).tup S1 (paired_rg _ 0) p hp
    | _ => exact h1.elim
  · refine impE (pe_tupRgF hc hg hm (prg_2 hg2 hm2 ha hb (star_cons hn) (star_cons hn2) (by rw [star_cons hn2]; rfl)) rfl) fun σ H Q ⟨μ, env, st, hE, hS, h⟩ => ?_
    have h : (((r.e a env st).bind fun x st => (r.e b env st).bind fun y st => (match x with | .int lo => (match y with | .int hi => if (inR62 lo && inR62 hi) = true then R.ok (intsFrom lo (hi - lo).toNat) st else .no | _ => .no) | _ => .no)).bind fun xs st => if small xs.length = true then R.ok (D.tup xs) st else .no).pst (fun d st' => Post X.K μ H d st' Q) (Z μ H) := h
    refine seqE hz hE hS (pst_bind h) fun d st1 μ1 v H1 L1 r1 S1 h1 => seqE hz (hE.mono L1) S1 h1 fun d2 st2 μ2 v2 H2 L2 r2 S2 h2 => ?_
    cases d with
    | int i =>
      cases d2 with
      | int j =>
        obtain ⟨hj, q⟩ := pst_ite (show (if (inR62 i && inR62 j) = true then R.ok (intsFrom i (j - i).toNat) st2 else .no).pst _ _ from h2)
        obtain ⟨hs, q⟩ := pst_ite (show (if small (intsFrom i (j - i).toNat).length = true then R.ok (D.tup (intsFrom i (j - i).toNat)) st2 else .no).pst _ _ from q)
        obtain ⟨h5, h6⟩ := b_and hj
        cases (show v = .int i from r1)
        cases (show v2 = .int j from r2)
        refine ⟨i, j, rfl, rfl, rg_small h5 h6 hs, ?_⟩
        have q : Post X.K μ H (.tup (intsFrom i (j - i).toNat)) st2 Q := q
        exact fun its p hp => (q.mono (L1.trans L2)).tup S2 (paired_rg _ i) p hp
      | _ => exact h2.elim
    | _ => exact h2.elim
end
end Ev
end

section
set_option Elab.async false
set_option linter.all false
set_option maxRecDepth 100000
set_option maxHeartbeats 2000000
/-! Snd12: isinstance, replacing, targets, what is walked. -/
namespace Ev
open PySem PySem.Spec L2
section
variable {X : Cx} {Z : ZT} {P : List Fn} {n : Nat} {r rc : Ev} {a b c : E} {xa xb xc : Expr} {pos p p2 apos : Pos} {es : List Expr} {x : Str}
theorem boot_ty (t : Ty) : bootBuiltins (Str.ofString (tyN t)) = some (.type (tyN t)) := by
  cases t
  · exact PyProof.Rows.boot_int
  · exact PyProof.Rows.boot_str
  · exact PyProof.Rows.boot_tuple
  · exact PyProof.Rows.boot_bool
  · exact PyProof.Rows.boot_list
theorem e_isi {t : Ty} (hz : ZMono Z) (ha : PE X xa (tE X.K Z r a)) (hn : nst xa = true) (hg : Gl X "isinstance") (hm : X.mg "isinstance" = none) (hg2 : Gl X (Str.ofString (tyN t))) (hm2 : X.mg (Str.ofString (tyN t)) = none) :
    PE X (.Call (.Name "isinstance" p) [xa, .Name (Str.ofString (tyN t)) p2] [] pos) (tE X.K Z (step P n r rc) (.isi t a)) := by
  have h2 : PE X (.Name (Str.ofString (tyN t)) p2) (tC (.ty (tyN t))) := pe_bltn hg2 hm2 (boot_ty t) (show RelV (V.ty (tyN t)) (.type (tyN t)) from rfl) (by cases t <;> decide) (by cases t <;> decide)
  refine impE (pe_callB call_isi hg hm PyProof.Rows.boot_isinstance (pa_cons ha (pa_cons h2 pa_nil) (star_cons hn)) (by decide) (by decide) (star_cons hn)) fun σ H Q ⟨μ, env, st, hE, hS, h⟩ => ?_
  refine seqE hz hE hS h fun d st1 μ1 v H1 L1 r1 S1 h1 => ?_
  obtain ⟨k, e, q⟩ := pst_ofB h1
  obtain ⟨a', e1, e2, e3⟩ := isTy_kind e
  subst e3
  exact ⟨v, .ty (tyN t), _, _, tyB a' t, rfl, .ty _, rep_ty S1 r1 e1, kit_all e2 t, q μ1 _ H1 L1 rfl S1⟩
/-! ### replacing -/
theorem rplS_eq (y z : List Nat) : ∀ (k : Nat) (l : List Nat), rplS y z k l = StrLaws.replS y z k l
  | k, [] => by cases k <;> simp [rplS, StrLaws.replS]
  | 0, c :: r => by
    unfold StrLaws.replS
    show (if ((c :: r).take y.length == y) = true then z ++ rplS y z (y.length - 1) r else c :: rplS y z 0 r) = _
    by_cases h : (c :: r).take y.length = y
    · rw [if_pos (by simpa using h), if_pos h, rplS_eq y z _ r]
    · rw [if_neg (by simpa using h), if_neg h, rplS_eq y z _ r]
  | k + 1, c :: r => by
    unfold StrLaws.replS
    exact rplS_eq y z k r
theorem rpl_core {y z : Str} (hz : ZMono Z) {σ : L2.St} {H : Hp} {Q : VK} (h : tE X.K Z (step P n r rc) (.rpl a y z) σ H Q) : CwR.tReplC (tE X.K Z r a) y z σ H Q := by
  obtain ⟨μ, env, st, hE, hS, h⟩ := h
  refine seqE hz hE hS h fun d st1 μ1 v H1 L1 r1 S1 h1 => ?_
  cases d with
  | str s =>
    have h1 : (if (Nat.ble 1 y.length && Nat.ble (s.length + (s.length + 1) * z.length) line) = true then R.ok (D.str (ofChars (rplS y.cps.toList z.cps.toList 0 s.cps.toList))) st1 else R.no).pst (fun d st' => Post X.K μ H d st' Q) (Z μ1 H1) := h1
    obtain ⟨hb, q⟩ := pst_ite h1
    obtain ⟨b1, b2⟩ := b_and hb
    have hy := Nat.ble_eq.mp b1
    refine ⟨s, r1, Nat.ble_eq.mp b2, ?_⟩
    have e : Txt.replace s y z = ofChars (rplS y.cps.toList z.cps.toList 0 s.cps.toList) := by
      rw [rplS_eq]
      have := StrLaws.replace_list (x := s) (z := z) hy
      unfold StrLaws.replL at this
      rw [← this]
      rfl
    rw [e]
    exact q μ1 _ H1 L1 rfl S1
  | _ => exact h1.elim
theorem k_rplC {y z : Str} {j k : Nat} {c0 c1 : Pos} (hz : ZMono Z) (ho : PE X xa (tE X.K Z r a)) (hyz : (y == z) = false) (hsup : nsup xa = true) (hl : (apos.endLine == pos.line) = true) :
    PET X (.Call (.Attribute xa "replace" apos) [.Constant (.str y) j c0, .Constant (.str z) k c1] [] pos) (tE X.K Z (step P n r rc) (.rpl a y z)) := fun pins s σ H Q h0 I h =>
  CwR.pet_replC ho hyz rfl (nsup_ok hsup _ _) hl pins s σ H Q h0 I (rpl_core hz h)
theorem k_rplT {y z : Str} {j k : Nat} {c0 c1 : Pos} (hz : ZMono Z) (ho : PET X xa (tE X.K Z r a)) (hyz : (y == z) = false) (hsup : nsup xa = true) (hl : (apos.endLine == pos.line) = true) :
    PET X (.Call (.Attribute xa "replace" apos) [.Constant (.str y) j c0, .Constant (.str z) k c1] [] pos) (tE X.K Z (step P n r rc) (.rpl a y z)) := fun pins s σ H Q h0 I h =>
  CwR.pet_replT ho hyz rfl (nsup_ok hsup _ _) hl pins s σ H Q h0 I (rpl_core hz h)
/-- 'text' + e, where e wants a token given out -/
theorem e_binT (hz : ZMono Z) {o : Bop} {y : Str} {j : Nat} {c0 : Pos} (hr : ∀ env st, r.e (.cst (.str y)) env st = .ok (.str y) st ∨ r.e (.cst (.str y)) env st = .no) (hb : PET X xb (tE X.K Z r b)) :
    PE X (.BinOp (.Constant (.str y) j c0) (pyB o) xb pos) (tE X.K Z (step P n r rc) (.bin o (.cst (.str y)) b)) := by
  refine ⟨fun pins s σ H Q I ⟨μ, env, st, hE, hS, h⟩ => ?_⟩
  have h : ((r.e (.cst (.str y)) env st).bind fun x st => (r.e b env st).bind fun w st => (binop o x w st).val).pst (fun d st' => Post X.K μ H d st' Q) (Z μ H) := h
  rcases hr env st with e | e
  · rw [e] at h
    refine wpAny_BinOp (Calls.Constant_str ?_)
    refine thn (hb pins _ σ H _ (Nat.le_add_left 1 _) (I.tok _) (seqE hz hE hS (show ((r.e b env st).bind fun w st => (binop o (.str y) w st).val).pst (fun d st' => Post X.K μ H d st' Q) (Z μ H) from h) (Q := fun w H2 => vBin X.K (binop o) (.str y) w H2 Q) fun d2 st2 μ2 v2 H2 L2 r2 S2 h2 => ?_)) fun u s2 ⟨w, H2, I2, r2, q2⟩ => ?_
    · obtain ⟨d3, st3, e, q⟩ := pst_val h2
      exact ⟨μ2, .str y, d2, st2, d3, st3, S2, rfl, r2, e, q.mono L2⟩
    · exact op_bin o pins s2 σ H2 (.str y) w _ u Q I2 ⟨_, rfl⟩ r2 q2
  · rw [e] at h
    exact h.elim
/-! ### targets -/
def T.len : T → Nat
  | .nm _ => 0
  | .nil => 0
  | .cons _ r => r.len + 1
mutual
def gT (K : PySem.W.Frag) : T → TG
  | .nm i => gName i
  | .nil => gTup K 0 gNil
  | .cons t r => gTup K (r.len + 1) (gCons (gT K t) (gTs K r))
def gTs (K : PySem.W.Frag) : T → TGs
  | .nm _ => fun _ _ _ _ => False
  | .nil => gNil
  | .cons t r => gCons (gT K t) (gTs K r)
end
def T.isNm : T → Bool
  | .nm _ => true
  | _ => false
mutual
/-- a target as it is written -/
def T.wf : T → Bool
  | .nm _ => true
  | .nil => true
  | .cons t r => t.wf && r.row
def T.row : T → Bool
  | .nm _ => false
  | .nil => true
  | .cons t r => t.wf && r.row
end
section
variable {K : PySem.W.Frag} {μ : List Addr} {H : Hp}
theorem take_len : ∀ (t : T) (xs : List D) (env env' : Env), t.row = true → T.take t (.tup xs) env = some env' → xs.length = t.len
  | .nm _, _, _, _, hw, _ => by cases hw
  | .nil, xs, _, _, _, h => by
    cases xs with
    | nil => rfl
    | cons _ _ => cases h
  | .cons t q, xs, env, env', hw, h => by
    obtain ⟨w1, w2⟩ := b_and (show (t.wf && q.row) = true from hw)
    cases xs with
    | nil => cases h
    | cons x xs =>
      have h : (match T.take t x env with | some env => T.take q (.tup xs) env | none => none) = some env' := h
      cases e : T.take t x env with
      | none => rw [e] at h; cases h
      | some env1 =>
        rw [e] at h
        show xs.length + 1 = q.len + 1
        rw [take_len q xs env1 env' w2 h]
mutual
theorem take_t : ∀ (t : T) (d : D) (env env' : Env), t.wf = true → T.take t d env = some env' → ∀ (σ : L2.St) (v : V) (Q : L2.St → Hp → Prop), EnvR K μ H env σ → Rep K μ H d v → (∀ σ', EnvR K μ H env' σ' → Q σ' H) → gT K t v σ H Q
  | .nm i, d, env, env', _, h, σ, v, Q, hE, r, k => by
    cases (show some (env.put i d) = some env' from h)
    exact k _ (hE.put r)
  | .nil, d, env, env', _, h, σ, v, Q, hE, r, k => by
    cases d with
    | tup xs =>
      cases xs with
      | nil =>
        cases (show some env = some env' from h)
        obtain ⟨a, vs, its, rfl, ha, hv⟩ := r
        cases (show vs = [] from hv)
        exact ⟨a, [], rfl, .inl (.inr ⟨_, ha⟩), rfl, rfl, k σ hE⟩
      | cons _ _ => cases h
    | _ => cases h
  | .cons t q, d, env, env', hw, h, σ, v, Q, hE, r, k => by
    cases d with
    | tup xs =>
      obtain ⟨a, vs, its, rfl, ha, hv⟩ := r
      obtain ⟨g1, g2⟩ := take_r (.cons t q) xs env env' hw h σ vs Q hE (RepL.iff.mp hv) k
      exact ⟨a, vs, rfl, .inl (.inr ⟨_, ha⟩), by rw [← (RepL.iff.mp hv).length]; exact g2, g1⟩
    | _ => cases h
theorem take_r : ∀ (t : T) (xs : List D) (env env' : Env), t.row = true → T.take t (.tup xs) env = some env' → ∀ (σ : L2.St) (vs : List V) (Q : L2.St → Hp → Prop), EnvR K μ H env σ → Paired (Rep K μ H) xs vs → (∀ σ', EnvR K μ H env' σ' → Q σ' H) → gTs K t vs σ H Q ∧ xs.length = t.len
  | .nm i, xs, env, env', hw, h, σ, vs, Q, hE, r, k => by cases hw
  | .nil, xs, env, env', _, h, σ, vs, Q, hE, r, k => by
    cases xs with
    | nil =>
      cases (show some env = some env' from h)
      cases r
      exact ⟨⟨rfl, k σ hE⟩, rfl⟩
    | cons _ _ => cases h
  | .cons t q, xs, env, env', hw, h, σ, vs, Q, hE, r, k => by
    obtain ⟨w1, w2⟩ := b_and (show (t.wf && q.row) = true from hw)
    cases xs with
    | nil => cases h
    | cons x xs =>
      have h : (match T.take t x env with | some env => T.take q (.tup xs) env | none => none) = some env' := h
      cases e : T.take t x env with
      | none => rw [e] at h; cases h
      | some env1 =>
        rw [e] at h
        cases r with
        | @cons _ v _ vs' r1 r2 =>
          have key : ∀ σ1, EnvR K μ H env1 σ1 → gTs K q vs' σ1 H Q ∧ xs.length = q.len := fun σ1 h1 => take_r q xs env1 env' w2 h σ1 vs' Q h1 r2 k
          have kl : xs.length = q.len := take_len q xs env1 env' w2 h
          exact ⟨⟨v, vs', rfl, take_t t x env env1 w1 e σ v _ hE r1 fun σ1 h1 => (key σ1 h1).1⟩, by show xs.length + 1 = q.len + 1; rw [kl]⟩
end
/-- a pair just made -/
theorem take_pair {t : T} {d1 d2 : D} {env env' : Env} (hw : t.wf = true) (hn : t.isNm = false) (h : T.take t (.tup [d1, d2]) env = some env') {σ : L2.St} {a : Addr} {v w : V} {Q : L2.St → Hp → Prop} (hE : EnvR K μ H env σ) (hs : SqT K H a [v, w]) (r1 : Rep K μ H d1 v) (r2 : Rep K μ H d2 w)
    (k : ∀ σ', EnvR K μ H env' σ' → Q σ' H) : gT K t (.ref a) σ H Q := by
  cases t with
  | nm i => cases hn
  | nil => cases h
  | cons t q =>
    obtain ⟨g1, g2⟩ := take_r (.cons t q) [d1, d2] env env' hw h σ [v, w] Q hE (.cons r1 (.cons r2 .nil)) k
    exact ⟨a, [v, w], rfl, hs, g2, g1⟩
end
/-! ### what is walked -/
section
variable {K : PySem.W.Frag} {μ : List Addr} {H : Hp} {st : Sto}
theorem beqKV_eq : True := trivial
mutual
theorem beq_eq : ∀ {x y : D}, D.beq x y = true → x = y
  | .non, y, h => by cases y <;> first | rfl | cases h
  | .bl a, y, h => by
    cases y <;> first | (exact absurd h Bool.false_ne_true) | skip
    rw [eq_of_beq (show (a == _) = true from h)]
  | .int a, y, h => by
    cases y <;> first | (exact absurd h Bool.false_ne_true) | skip
    rw [eq_of_beq (show (a == _) = true from h)]
  | .str a, y, h => by
    cases y <;> first | (exact absurd h Bool.false_ne_true) | skip
    rename_i b
    have h : sEq a b = true := h
    rw [sEq_eq] at h
    rw [eq_of_beq h]
  | .tup xs, y, h => by
    cases y <;> first | (exact absurd h Bool.false_ne_true) | skip
    rw [beqL_eq (show D.beqL xs _ = true from h)]
  | .ref a, y, h => by
    cases y <;> first | (exact absurd h Bool.false_ne_true) | skip
    rw [eq_of_beq (show (a == _) = true from h)]
  | .fn a, y, h => by
    cases y <;> first | (exact absurd h Bool.false_ne_true) | skip
    rw [eq_of_beq (show (a == _) = true from h)]
  | .rol a, y, h => by
    cases y <;> first | (exact absurd h Bool.false_ne_true) | skip
    rw [eq_of_beq (show (a == _) = true from h)]
theorem beqL_eq : ∀ {xs ys : List D}, D.beqL xs ys = true → xs = ys
  | [], ys, h => by cases ys <;> first | rfl | cases h
  | x :: xs, ys, h => by
    cases ys with
    | nil => cases h
    | cons y ys =>
      obtain ⟨h1, h2⟩ := b_and (show (D.beq x y && D.beqL xs ys) = true from h)
      rw [beq_eq h1, beqL_eq h2]
end
theorem src_one {l : Nat} {xs : List D} (h : srcOk st [(l, .lst xs)] = true) : sget st l = some (.lst xs) := by
  have h : ((match sget st l with | some o => O.beq (.lst xs) o | none => false) && true) = true := h
  obtain ⟨h, _⟩ := b_and h
  cases e : sget st l with
  | none => rw [e] at h; cases h
  | some o =>
    rw [e] at h
    cases o with
    | lst ys => rw [beqL_eq (show D.beqL xs ys = true from h)]
    | _ => cases h
theorem it_list {a : Addr} {l : Nat} {xs : List D} (ha : μ[l]? = some a) : ItOk K (Itl K a) ⟨xs, [(l, .lst xs)], false⟩ μ H := fun i μ2 H2 st2 L S h => by
  obtain ⟨vs, h1, h2⟩ := S.lst (L.pre l a ha) (src_one h)
  have q : SqL K H2 a vs := .inl (.inl h1)
  refine ⟨fun d hd => ?_, fun hn => ⟨vs, q, ?_⟩⟩
  · obtain ⟨v, g1, g2⟩ := Pr.get h2 hd
    refine ⟨⟨vs, v, q, g1⟩, fun x H3 ⟨e1, e2⟩ => ⟨e1, ?_⟩⟩
    have e3 := e2 vs q
    rw [g1] at e3
    cases e3
    exact g2
  · rw [← h2.length]
    exact List.getElem?_eq_none_iff.mp hn
theorem it_tup {a : Addr} {xs : List D} {vs : List V} {its : List Value} (ha : H a = some (.frz (tupO its) (.tup vs))) (hv : Paired (Rep K μ H) xs vs) : ItOk K (Itt K a) ⟨xs, [], false⟩ μ H := fun i μ2 H2 st2 L S h => by
  have q : SqT K H2 a vs := .inl (.inr ⟨_, L.im _ _ ha trivial⟩)
  refine ⟨fun d hd => ?_, fun hn => ⟨vs, q, ?_⟩⟩
  · obtain ⟨v, g1, g2⟩ := Pr.get hv hd
    refine ⟨⟨vs, v, q, g1⟩, fun x H3 ⟨e1, e2⟩ => ⟨e1, ?_⟩⟩
    have e3 := e2 vs q
    rw [g1] at e3
    cases e3
    exact g2.mono0 L.pre L.im
  · rw [← hv.length]
    exact List.getElem?_eq_none_iff.mp hn
theorem it_rol {a : Addr} {ns : List Int} (ha : Ro K H a (ns.map V.int)) : ItOk K (Itl K a) ⟨ns.map .int, [], false⟩ μ H := fun i μ2 H2 st2 L S h => by
  have q : SqL K H2 a (ns.map V.int) := (ro_im L.im ha).seq
  refine ⟨fun d hd => ?_, fun hn => ⟨_, q, ?_⟩⟩
  · have hd : (ns.map D.int)[i]? = some d := hd
    rw [List.getElem?_map] at hd
    cases e : ns[i]? with
    | none => rw [e] at hd; cases hd
    | some m =>
      rw [e] at hd
      cases hd
      have g1 : (ns.map V.int)[i]? = some (V.int m) := by rw [List.getElem?_map, e]; rfl
      refine ⟨⟨_, _, q, g1⟩, fun x H3 ⟨e1, e2⟩ => ⟨e1, ?_⟩⟩
      have e3 := e2 _ q
      rw [g1] at e3
      exact (Option.some.inj e3).symm
  · have := List.getElem?_eq_none_iff.mp (show (ns.map D.int)[i]? = none from hn)
    simpa using this
theorem it_str {z : Str} : ItOk K (Its z) ⟨z.cps.toList.map fun c => .str ⟨#[c]⟩, [], false⟩ μ H := fun i μ2 H2 st2 L S h => by
  refine ⟨fun d hd => ?_, fun hn => ?_⟩
  · have hd : (z.cps.toList.map fun c => D.str ⟨#[c]⟩)[i]? = some d := hd
    rw [List.getElem?_map] at hd
    cases e : z.cps.toList[i]? with
    | none => rw [e] at hd; cases hd
    | some m =>
      rw [e] at hd
      cases hd
      have e4 : z.cps[i]? = some m := by simpa using e
      refine ⟨?_, fun x H3 ⟨e1, k, e2, e3⟩ => ⟨e1, ?_⟩⟩
      · show i < z.cps.size
        have := (List.getElem?_eq_some_iff.mp e).1
        simpa using this
      · rw [e4] at e2
        cases e2
        exact e3
  · have := List.getElem?_eq_none_iff.mp (show (z.cps.toList.map fun c => D.str ⟨#[c]⟩)[i]? = none from hn)
    show z.cps.size ≤ i
    simpa using this
theorem kints_rep : ∀ ks : List Int, RepL K μ H (ks.map D.int) (ks.map V.int)
  | [] => rfl
  | k :: ks => ⟨_, _, rfl, rfl, kints_rep ks⟩
theorem it_keys {a : Addr} {ob : Obj} {kvs : List (D × D)} {l' : List (Key × V)} (ha : H a = some (.frz ob (.dK l'))) (hk : KVR K μ H kvs l') : ItOk K (Itk a ob l') ⟨kvs.map (·.1), [], false⟩ μ H := fun i μ2 H2 st2 L S h => by
  have q := L.im _ _ ha trivial
  refine ⟨fun d hd => ?_, fun hn => ⟨q, ?_⟩⟩
  · have hd : (kvs.map (·.1))[i]? = some d := hd
    rw [List.getElem?_map] at hd
    cases e : kvs[i]? with
    | none => rw [e] at hd; cases hd
    | some m =>
      rw [e] at hd
      cases hd
      obtain ⟨v, g1, g2, g3⟩ := Pr.get hk e
      refine ⟨⟨q, (List.getElem?_eq_some_iff.mp g1).1⟩, fun x H3 ⟨e1, k, w, e2, e3⟩ => ⟨e1, ?_⟩⟩
      rw [g1] at e2
      cases e2
      show Rep K μ2 H2 m.1 x
      rw [g2, e3]
      exact rep_kD'
  · have := List.getElem?_eq_none_iff.mp (show (kvs.map (·.1))[i]? = none from hn)
    rw [List.length_map, hk.length] at this
    exact this
theorem it_keysT {a : Addr} {ob : Obj} {kvs : List (D × D)} {l' : TX} (ha : H a = some (.frz ob (.ext (TDp a l')))) (hk : KVT K μ H kvs l') : ItOk K (ItkT a ob l') ⟨kvs.map (·.1), [], false⟩ μ H := fun i μ2 H2 st2 L S h => by
  have q := L.im _ _ ha trivial
  refine ⟨fun d hd => ?_, fun hn => ⟨q, ?_⟩⟩
  · have hd : (kvs.map (·.1))[i]? = some d := hd
    rw [List.getElem?_map] at hd
    cases e : kvs[i]? with
    | none => rw [e] at hd; cases hd
    | some m =>
      rw [e] at hd
      cases hd
      obtain ⟨v, g1, g2, ⟨its, g4⟩, g3⟩ := Pr.get hk e
      refine ⟨⟨q, (List.getElem?_eq_some_iff.mp g1).1⟩, fun x H3 ⟨e1, p, e2, e3⟩ => ⟨e1, ?_⟩⟩
      rw [g1] at e2
      cases e2
      show Rep K μ2 H2 m.1 x
      rw [g2, e3]
      exact ⟨_, _, its, rfl, L.im _ _ g4 trivial, kints_rep v.1⟩
  · have := List.getElem?_eq_none_iff.mp (show (kvs.map (·.1))[i]? = none from hn)
    rw [List.length_map, hk.length] at this
    exact this
theorem ints_len (a : Int) : ∀ n, (intsFrom a n).length = n
  | 0 => rfl
  | n + 1 => by show (intsFrom (a + 1) n).length + 1 = n + 1; rw [ints_len (a + 1) n]
theorem ints_get : ∀ (a : Int) (n i : Nat), i < n → (intsFrom a n)[i]? = some (.int (a + i))
  | a, 0, i, h => by omega
  | a, n + 1, 0, h => by show some (D.int a) = _; simp
  | a, n + 1, i + 1, h => by
    show (intsFrom (a + 1) n)[i]? = _
    rw [ints_get (a + 1) n i (by omega)]
    congr 2
    omega
theorem it_rng {lo : Int} {n : Nat} : ItOk K (Itr lo n) ⟨intsFrom lo n, [], false⟩ μ H := fun i μ2 H2 st2 L S h => by
  refine ⟨fun d hd => ?_, fun hn => ?_⟩
  · have hi : i < n := by
      have := (List.getElem?_eq_some_iff.mp (show (intsFrom lo n)[i]? = some d from hd)).1
      rwa [ints_len] at this
    have e := ints_get lo n i hi
    have hd : (intsFrom lo n)[i]? = some d := hd
    rw [e] at hd
    cases hd
    exact ⟨hi, fun x H3 ⟨e1, e2⟩ => ⟨e1, e2⟩⟩
  · have := List.getElem?_eq_none_iff.mp (show (intsFrom lo n)[i]? = none from hn)
    rw [ints_len] at this
    exact this
end
section
variable {X : Cx} {Z : ZT} {P : List Fn} {n : Nat} {r rc : Ev} {a b c : E} {xa xb xc tg : Expr} {pos p p2 apos : Pos} {es : List Expr} {x : Str}
/-- reading an iterator off a value: by the value's kind -/
def tItV (K : PySem.W.Frag) (t : TE) : TI := fun σ H R => t σ H fun v H1 => ∃ μ d st it, StR K μ H1 st ∧ Rep K μ H1 d v ∧ itOf d st = some it ∧ ∀ J, ItOk K J it μ H1 → R J H1
theorem pi_val {t : TE} (ha : PE X xa t) : PI X tg xa (tItV X.K t) := by
  refine ⟨fun pins s σ H R I h => thn (ha.run pins s σ H _ I h) fun u s1 ⟨v, H1, I1, rv, μ, d, st, it, S, rd, e, k⟩ => ?_⟩
  have lst : ∀ {a : Addr} {vs : List V}, SqL X.K H1 a vs → R (Itl X.K a) H1 → wpAny (model X.prog X.w) X.A (pyIter (.ref a)) (PIE X pins σ tg R) X.xe s1 := fun {a vs} hq q => by
    obtain ⟨its, _, pl, _⟩ := I1.list hq
    exact wpAny_pyIter_list pl.isList (pi_one (tk := s1.toks) I1 _ (turn_list a _) ⟨_, Heap.get?_push_size _ rfl, rfl, rfl⟩ q)
  cases d with
  | tup xs =>
    obtain ⟨a, vs, its, rfl, h1, hv⟩ := rd
    cases (show u = Value.ref a from rv)
    cases (show some (⟨xs, [], false⟩ : Ev.It) = some it from e)
    obtain ⟨its2, _, pt, _⟩ := I1.tuple (a := a) (xs := vs) (.inl (.inr ⟨_, h1⟩))
    exact wpAny_pyIter_tuple (show s1.heap.IsTuple a its2.toArray from pt) (pi_one (tk := s1.toks) I1 _ (turn_tuple a _) ⟨_, Heap.get?_push_size _ rfl, rfl, rfl⟩ (k _ (it_tup h1 (RepL.iff.mp hv))))
  | str z =>
    cases (show v = .str z from rd)
    obtain ⟨tk, rfl⟩ := rv
    cases (show some (⟨z.cps.toList.map fun c => .str ⟨#[c]⟩, [], false⟩ : Ev.It) = some it from e)
    have q := k _ (it_str (K := X.K) (μ := μ) (H := H1) (z := z))
    cases hw : z.cps.all (· < 128) with
    | false => exact wpAny_pyIter_wide hw (pi_one (tk := s1.toks) I1 _ (turn_str _ z tk "str_iterator" (.inr rfl)) ⟨_, Heap.get?_push_size _ rfl, rfl, rfl⟩ q)
    | true => exact wpAny_pyIter_ascii hw (pi_one (tk := s1.toks) I1 _ (turn_str _ z tk "str_ascii_iterator" (.inl rfl)) ⟨_, Heap.get?_push_size _ rfl, rfl, rfl⟩ q)
  | rol ns =>
    obtain ⟨a, rfl, h1⟩ := rd
    cases (show u = Value.ref a from rv)
    cases (show some (⟨ns.map .int, [], false⟩ : Ev.It) = some it from e)
    exact lst h1.seq (k _ (it_rol h1))
  | ref l =>
    obtain ⟨a, ha, rfl⟩ := rd
    cases (show u = Value.ref a from rv)
    simp only [itOf] at e
    cases e1 : sget st l with
    | none => rw [e1] at e; cases e
    | some o =>
      rw [e1] at e
      cases o with
      | lst xs =>
        cases (show some (⟨xs, [(l, .lst xs)], false⟩ : Ev.It) = some it from e)
        obtain ⟨vs, h1, _⟩ := S.lst ha e1
        exact lst (.inl (.inl h1)) (k _ (it_list ha))
      | lck kvs =>
        cases (show some (⟨kvs.map (·.1), [], false⟩ : Ev.It) = some it from e)
        obtain ⟨ob, l', h1, h2⟩ := (show ∃ ob l, H1 a = some (.frz ob (.dK l)) ∧ KVR X.K μ H1 kvs l from S.at_ ha e1)
        obtain ⟨hs, hgd, hx, es, ep, vs, hdt, hsz, kv, hm⟩ := I1.frzK h1
        exact iter_keys hs hgd hx hdt (pi_one (tk := s1.toks) I1 _ (turn_keys _ hdt) ⟨_, Heap.get?_push_size _ rfl, rfl, by rw [hsz] <;> rfl⟩ (k _ (it_keys h1 h2)))
      | lcT kvs =>
        cases (show some (⟨kvs.map (·.1), [], false⟩ : Ev.It) = some it from e)
        obtain ⟨ob, l', h1, h2⟩ := (show ∃ ob l, H1 a = some (.frz ob (.ext (TDp a l))) ∧ KVT X.K μ H1 kvs l from S.at_ ha e1)
        obtain ⟨hs, hgd, hx, es, ep, hdt, hr, hsz, ent⟩ := frzTD I1 h1
        exact iter_keys hs hgd hx hdt (pi_one (tk := s1.toks) I1 _ (turn_keysTD _ hdt) ⟨_, Heap.get?_push_size _ rfl, rfl, by rw [hsz] <;> rfl⟩ (k _ (it_keysT h1 h2)))
      | _ => cases e
  | _ => cases e
end
end
end Ev
end

section
set_option Elab.async false
set_option linter.all false
set_option maxRecDepth 100000
set_option maxHeartbeats 2000000
/-! Snd12b: enumerate, zip. -/
namespace Ev
open PySem PySem.Spec L2
theorem numD_get : ∀ (xs : List D) (a : Int) (i : Nat), (numD a xs)[i]? = xs[i]?.map fun x => .tup [.int (a + (i : Nat)), x]
  | [], _, _ => by simp [numD]
  | x :: xs, a, 0 => by simp [numD]
  | x :: xs, a, i + 1 => by
    rw [numD, List.getElem?_cons_succ, List.getElem?_cons_succ, numD_get xs (a + 1) i]
    congr 1
    funext x
    congr 3
    omega
theorem zipD_get : ∀ (xs ys : List D) (i : Nat) (d : D), (zipD xs ys)[i]? = some d → ∃ x y, d = .tup [x, y] ∧ xs[i]? = some x ∧ ys[i]? = some y
  | [], ys, i, d, h => by simp [zipD] at h
  | x :: xs, [], i, d, h => by simp [zipD] at h
  | x :: xs, y :: ys, 0, d, h => by
    cases (show some (D.tup [x, y]) = some d from h)
    exact ⟨x, y, rfl, rfl, rfl⟩
  | x :: xs, y :: ys, i + 1, d, h => zipD_get xs ys i d (by simpa [zipD] using h)
theorem zipD_none : ∀ (xs ys : List D) (i : Nat), (zipD xs ys)[i]? = none → xs.length ≤ i ∨ ys.length ≤ i
  | [], ys, i, _ => .inl (by simp)
  | x :: xs, [], i, _ => .inr (by simp)
  | x :: xs, y :: ys, 0, h => by simp [zipD] at h
  | x :: xs, y :: ys, i + 1, h => by
    have := zipD_none xs ys i (by simpa [zipD] using h)
    simp only [List.length_cons]
    omega
section
variable {K : PySem.W.Frag} {μ : List Addr} {H : Hp} {st : Sto}
theorem src_app {a b : List (Nat × O)} (h : srcOk st (a ++ b) = true) : srcOk st a = true ∧ srcOk st b = true := by
  induction a with
  | nil => exact ⟨rfl, h⟩
  | cons p r ih =>
    obtain ⟨h1, h2⟩ := b_and (show ((match sget st p.1 with | some o => O.beq p.2 o | none => false) && srcOk st (r ++ b)) = true from h)
    obtain ⟨g1, g2⟩ := ih h2
    refine ⟨?_, g2⟩
    show ((match sget st p.1 with | some o => O.beq p.2 o | none => false) && srcOk st r) = true
    rw [h1, g1]
    rfl
theorem it_enumL {a : Addr} {l : Nat} {xs : List D} (ha : μ[l]? = some a) : ItOk K (Ite K a) ⟨numD 0 xs, [(l, .lst xs)], true⟩ μ H := fun i μ2 H2 st2 L S h => by
  obtain ⟨vs, h1, h2⟩ := S.lst (L.pre l a ha) (src_one h)
  have q : SqL K H2 a vs := .inl (.inl h1)
  refine ⟨fun d hd => ?_, fun hn => ⟨vs, q, ?_⟩⟩
  · rw [show (⟨numD 0 xs, [(l, .lst xs)], true⟩ : Ev.It).items = numD 0 xs from rfl, numD_get] at hd
    cases e : xs[i]? with
    | none => rw [e] at hd; cases hd
    | some x =>
      rw [e] at hd
      cases hd
      obtain ⟨v, g1, g2⟩ := Pr.get h2 e
      refine ⟨⟨vs, v, q, g1⟩, fun y H3 ⟨T, z, ey, hT, hH, hall⟩ => ?_⟩
      have e3 := hall vs q
      rw [g1] at e3
      cases e3
      exact ⟨T, _, _, _, _, rfl, ey, hT, hH, by show V.int _ = V.int _; simp, g2⟩
  · rw [← h2.length]
    rw [show (⟨numD 0 xs, [(l, .lst xs)], true⟩ : Ev.It).items = numD 0 xs from rfl, numD_get] at hn
    cases e : xs[i]? with
    | none => exact List.getElem?_eq_none_iff.mp e
    | some x => rw [e] at hn; cases hn
theorem it_enumT {a : Addr} {xs : List D} {vs : List V} {its : List Value} (ha : H a = some (.frz (tupO its) (.tup vs))) (hv : Paired (Rep K μ H) xs vs) : ItOk K (IteT K a) ⟨numD 0 xs, [], true⟩ μ H := fun i μ2 H2 st2 L S h => by
  have q : SqT K H2 a vs := .inl (.inr ⟨_, L.im _ _ ha trivial⟩)
  refine ⟨fun d hd => ?_, fun hn => ⟨vs, q, ?_⟩⟩
  · rw [show (⟨numD 0 xs, [], true⟩ : Ev.It).items = numD 0 xs from rfl, numD_get] at hd
    cases e : xs[i]? with
    | none => rw [e] at hd; cases hd
    | some x =>
      rw [e] at hd
      cases hd
      obtain ⟨v, g1, g2⟩ := Pr.get hv e
      refine ⟨⟨vs, v, q, g1⟩, fun y H3 ⟨T, z, ey, hT, hH, hall⟩ => ?_⟩
      have e3 := hall vs q
      rw [g1] at e3
      cases e3
      exact ⟨T, _, _, _, _, rfl, ey, hT, hH, by show V.int _ = V.int _; simp, g2.mono0 L.pre L.im⟩
  · rw [← hv.length]
    rw [show (⟨numD 0 xs, [], true⟩ : Ev.It).items = numD 0 xs from rfl, numD_get] at hn
    cases e : xs[i]? with
    | none => exact List.getElem?_eq_none_iff.mp e
    | some x => rw [e] at hn; cases hn
theorem it_zipL {a b : Addr} {l m : Nat} {xs ys : List D} (ha : μ[l]? = some a) (hb : μ[m]? = some b) : ItOk K (Itz K a b) ⟨zipD xs ys, [(l, .lst xs)] ++ [(m, .lst ys)], true⟩ μ H := fun i μ2 H2 st2 L S h => by
  obtain ⟨s1, s2⟩ := src_app h
  obtain ⟨vs, h1, h2⟩ := S.lst (L.pre l a ha) (src_one s1)
  obtain ⟨ws, h3, h4⟩ := S.lst (L.pre m b hb) (src_one s2)
  have q : SqL K H2 a vs := .inl (.inl h1)
  have q2 : SqL K H2 b ws := .inl (.inl h3)
  refine ⟨fun d hd => ?_, fun hn => ⟨vs, ws, q, q2, ?_⟩⟩
  · obtain ⟨x, y, rfl, ex, ey⟩ := zipD_get xs ys i d hd
    obtain ⟨v, g1, g2⟩ := Pr.get h2 ex
    obtain ⟨w, g3, g4⟩ := Pr.get h4 ey
    refine ⟨⟨vs, ws, v, w, q, q2, g1, g3⟩, fun z H3 ⟨T, x', y', ez, hT, hH, hx, hy⟩ => ?_⟩
    have e3 := hx vs q
    have e4 := hy ws q2
    rw [g1] at e3
    rw [g3] at e4
    cases e3
    cases e4
    exact ⟨T, _, _, _, _, rfl, ez, hT, hH, g2, g4⟩
  · rw [← h2.length, ← h4.length]
    exact zipD_none xs ys i hn
theorem it_zipT {a b : Addr} {xs ys : List D} {vs ws : List V} {its its2 : List Value} (ha : H a = some (.frz (tupO its) (.tup vs))) (hv : Paired (Rep K μ H) xs vs) (hb : H b = some (.frz (tupO its2) (.tup ws))) (hw : Paired (Rep K μ H) ys ws) : ItOk K (RZ.ItzT K a b) ⟨zipD xs ys, [] ++ [], true⟩ μ H := fun i μ2 H2 st2 L S h => by
  have q : SqT K H2 a vs := .inl (.inr ⟨_, L.im _ _ ha trivial⟩)
  have q2 : SqT K H2 b ws := .inl (.inr ⟨_, L.im _ _ hb trivial⟩)
  refine ⟨fun d hd => ?_, fun hn => ⟨vs, ws, q, q2, ?_⟩⟩
  · obtain ⟨x, y, rfl, ex, ey⟩ := zipD_get xs ys i d hd
    obtain ⟨v, g1, g2⟩ := Pr.get hv ex
    obtain ⟨w, g3, g4⟩ := Pr.get hw ey
    refine ⟨⟨vs, ws, v, w, q, q2, g1, g3⟩, fun z H3 ⟨T, x', y', ez, hT, hH, hx, hy⟩ => ?_⟩
    have e3 := hx vs q
    have e4 := hy ws q2
    rw [g1] at e3
    rw [g3] at e4
    cases e3
    cases e4
    exact ⟨T, _, _, _, _, rfl, ez, hT, hH, g2.mono0 L.pre L.im, g4.mono0 L.pre L.im⟩
  · rw [← hv.length, ← hw.length]
    exact zipD_none xs ys i hn
theorem ints_rev : ∀ (m : Nat) (a : Int) (i : Nat), (intsFrom a m).reverse[i]? = if i < m then some (.int (a + ((m : Nat) : Int) - 1 + (i : Nat) * (-1))) else none := by
  intro m a i
  have get : ∀ (m : Nat) (a : Int) (j : Nat), (intsFrom a m)[j]? = if j < m then some (D.int (a + (j : Nat))) else none := by
    intro m
    induction m with
    | zero => intro a j; simp [intsFrom]
    | succ m ih =>
      intro a j
      cases j with
      | zero => simp [intsFrom]
      | succ j =>
        rw [intsFrom, List.getElem?_cons_succ, ih]
        by_cases h : j < m
        · rw [if_pos h, if_pos (by omega)]
          congr 2
          omega
        · rw [if_neg h, if_neg (by omega)]
  have hlen : ∀ (m : Nat) (a : Int), (intsFrom a m).length = m := by
    intro m
    induction m with
    | zero => intro a; rfl
    | succ m ih => intro a; rw [intsFrom, List.length_cons, ih]
  by_cases h : i < m
  · rw [if_pos h, List.getElem?_reverse (by rw [hlen]; exact h), hlen, get, if_pos (by omega)]
    congr 2
    omega
  · rw [if_neg h]
    exact List.getElem?_eq_none_iff.mpr (by rw [List.length_reverse, hlen]; omega)
theorem it_rngr {a : Int} {m : Nat} : ItOk K (Itc (a + ((m : Nat) : Int) - 1) (-1) m) ⟨(intsFrom a m).reverse, [], false⟩ μ H := fun i μ2 H2 st2 L S h => by
  refine ⟨fun d hd => ?_, fun hn => ?_⟩
  · rw [show (⟨(intsFrom a m).reverse, [], false⟩ : Ev.It).items = (intsFrom a m).reverse from rfl, ints_rev] at hd
    by_cases hi : i < m
    · rw [if_pos hi] at hd
      cases hd
      exact ⟨hi, fun x H3 ⟨e1, e2⟩ => ⟨e1, e2⟩⟩
    · rw [if_neg hi] at hd
      cases hd
  · rw [show (⟨(intsFrom a m).reverse, [], false⟩ : Ev.It).items = (intsFrom a m).reverse from rfl, ints_rev] at hn
    by_cases hi : i < m
    · rw [if_pos hi] at hn
      cases hn
    · show m ≤ i
      omega
end
end Ev
end

section
set_option Elab.async false
set_option linter.all false
set_option maxRecDepth 100000
set_option maxHeartbeats 2000000
/-! Snd13: what is walked, by expressions; statements. -/
namespace Ev
open PySem PySem.Spec L2
section
variable {X : Cx} {Z : ZT} {P : List Fn} {n : Nat} {r rc : Ev} {a b c : E} {xa xb xc tg : Expr} {pos p p2 apos : Pos} {es : List Expr} {x : Str}
theorem i_val (hz : ZMono Z) (ha : PE X xa (tE X.K Z r a)) : PI X tg xa (tI X.K Z (step P n r rc) (.val a)) :=
  impI (pi_val ha) fun σ H R ⟨μ, env, st, hE, hS, h⟩ => seqE hz hE hS h fun d st1 μ1 v H1 L1 r1 S1 h1 => by
    obtain ⟨it, e, q⟩ := pst_okO h1
    exact ⟨μ1, d, st1, it, S1, r1, e, fun J hj => q μ1 J H1 L1 S1 hj⟩
theorem in62 {n : Int} (h : inR62 n = true) : -(2 ^ 62) ≤ n ∧ n < 2 ^ 62 := by
  obtain ⟨h1, h2⟩ := b_and h
  have h1 := of_decide_eq_true h1
  have h2 := of_decide_eq_true h2
  omega
theorem i_range1 (hz : ZMono Z) (hg : Gl X "range") (hm : X.mg "range" = none) (ha : PE X xa (tE X.K Z r a)) (hn : nst xa = true) : PI X tg (.Call (.Name "range" p) [xa] [] pos) (tI X.K Z (step P n r rc) (.blt .range (.cons a .nil))) :=
  impI (pi_range1 hg hm (pa_cons ha pa_nil (star_cons hn)) (star_cons hn)) fun σ H W ⟨μ, env, st, hE, hS, h⟩ => by
    have h : (((r.e a env st).bind fun x st => (match x with | .int n => if inR62 n = true then R.ok (intsFrom 0 n.toNat) st else .no | _ => .no)).bind fun xs st => R.ok (⟨xs, [], false⟩ : Ev.It) st).pst (fun it st' => PostI X.K μ H it st' W) (Z μ H) := h
    refine seqE hz hE hS (pst_bind h) fun d st1 μ1 v H1 L1 r1 S1 h1 => ?_
    cases d with
    | int j =>
      obtain ⟨hj, q⟩ := pst_ite (show (if inR62 j = true then R.ok (intsFrom 0 j.toNat) st1 else .no).pst _ _ from h1)
      obtain ⟨g1, g2⟩ := in62 hj
      have e : v = .int j := r1
      subst e
      exact ⟨j, rfl, g1, g2, (show PostI X.K μ H ⟨intsFrom 0 j.toNat, [], false⟩ st1 W from q) μ1 _ H1 L1 S1 it_rng⟩
    | _ => exact h1.elim
theorem i_range2 (hz : ZMono Z) (hg : Gl X "range") (hm : X.mg "range" = none) (ha : PE X xa (tE X.K Z r a)) (hb : PE X xb (tE X.K Z r b)) (hn : nst xa = true) (hn2 : nst xb = true) : PI X tg (.Call (.Name "range" p) [xa, xb] [] pos) (tI X.K Z (step P n r rc) (.blt .range (.cons a (.cons b .nil)))) :=
  impI (pi_range2 hg hm (pa_cons ha (pa_cons hb pa_nil (star_cons hn2)) (star_cons hn)) (by rw [star_cons hn, star_cons hn2]; rfl) (star_cons hn2)) fun σ H W ⟨μ, env, st, hE, hS, h⟩ => by
    have h : (((r.e a env st).bind fun x st => (r.e b env st).bind fun y st => (match x with | .int lo => (match y with | .int hi => if (inR62 lo && inR62 hi) = true then R.ok (intsFrom lo (hi - lo).toNat) st else .no | _ => .no) | _ => .no)).bind fun xs st => R.ok (⟨xs, [], false⟩ : Ev.It) st).pst (fun it st' => PostI X.K μ H it st' W) (Z μ H) := h
    refine seqE hz hE hS (pst_bind h) fun d st1 μ1 v H1 L1 r1 S1 h1 => seqE hz (hE.mono L1) S1 h1 fun d2 st2 μ2 v2 H2 L2 r2 S2 h2 => ?_
    cases d with
    | int i =>
      cases d2 with
      | int j =>
        obtain ⟨hj, q⟩ := pst_ite (show (if (inR62 i && inR62 j) = true then R.ok (intsFrom i (j - i).toNat) st2 else .no).pst _ _ from h2)
        obtain ⟨h5, h6⟩ := b_and hj
        obtain ⟨g1, g2⟩ := in62 h5
        obtain ⟨g3, g4⟩ := in62 h6
        have e : v = .int i := r1
        have e2 : v2 = .int j := r2
        subst e e2
        exact ⟨i, j, rfl, ⟨g1, g2, g3, g4⟩, (show PostI X.K μ H ⟨intsFrom i (j - i).toNat, [], false⟩ st2 W from q) μ2 _ H2 (L1.trans L2) S2 it_rng⟩
      | _ => exact h2.elim
    | _ => exact h2.elim
theorem down_len (a : Int) : ∀ n, (downFrom a n).length = n
  | 0 => rfl
  | n + 1 => by show (downFrom (a - 1) n).length + 1 = n + 1; rw [down_len (a - 1) n]
theorem down_get : ∀ (a : Int) (n i : Nat), i < n → (downFrom a n)[i]? = some (.int (a + (i : Nat) * (-1)))
  | a, 0, i, h => by omega
  | a, n + 1, 0, h => by show some (D.int a) = _; simp
  | a, n + 1, i + 1, h => by
    show (downFrom (a - 1) n)[i]? = _
    rw [down_get (a - 1) n i (by omega)]
    congr 2
    push_cast
    omega
theorem it_rngD {K : PySem.W.Frag} {μ : List Addr} {H : Hp} {lo : Int} {n : Nat} : ItOk K (Itc lo (-1) n) ⟨downFrom lo n, [], false⟩ μ H := fun i μ2 H2 st2 L S h => by
  refine ⟨fun d hd => ?_, fun hn => ?_⟩
  · have hi : i < n := by
      have := (List.getElem?_eq_some_iff.mp (show (downFrom lo n)[i]? = some d from hd)).1
      rwa [down_len] at this
    have e := down_get lo n i hi
    have hd : (downFrom lo n)[i]? = some d := hd
    rw [e] at hd
    cases hd
    exact ⟨hi, fun x H3 ⟨e1, e2⟩ => ⟨e1, e2⟩⟩
  · have := List.getElem?_eq_none_iff.mp (show (downFrom lo n)[i]? = none from hn)
    rw [down_len] at this
    exact this
theorem i_range3 (hz : ZMono Z) (hg : Gl X "range") (hm : X.mg "range" = none) (ha : PE X xa (tE X.K Z r a)) (hb : PE X xb (tE X.K Z r b)) (hc : PE X xc (tE X.K Z r c)) (hn : nst xa = true) (hn2 : nst xb = true) (hn3 : nst xc = true) :
    PI X tg (.Call (.Name "range" p) [xa, xb, xc] [] pos) (tI X.K Z (step P n r rc) (.blt .range (.cons a (.cons b (.cons c .nil))))) :=
  impI (pi_range3 hg hm (pa_cons ha (pa_cons hb (pa_cons hc pa_nil (star_cons hn3)) (star_cons hn2)) (star_cons hn)) (star_cons hn) (star_any (es := [xb, xc]) (by show (nst xb && (nst xc && true)) = true; rw [hn2, hn3]; rfl))) fun σ H W ⟨μ, env, st, hE, hS, h⟩ => by
    have h : (((r.e a env st).bind fun x st => (r.e b env st).bind fun y st => (r.e c env st).bind fun z st => (match x with
          | .int lo => (match y with
            | .int hi => (match z with | .int k => if (inR62 lo && inR62 hi && decide (k = -1)) = true then R.ok (downFrom lo (lo - hi).toNat) st else .no | _ => .no)
            | _ => .no)
          | _ => .no)).bind fun xs st => R.ok (⟨xs, [], false⟩ : Ev.It) st).pst (fun it st' => PostI X.K μ H it st' W) (Z μ H) := h
    refine seqE hz hE hS (pst_bind h) fun d st1 μ1 v H1 L1 r1 S1 h1 => seqE hz (hE.mono L1) S1 h1 fun d2 st2 μ2 v2 H2 L2 r2 S2 h2 => seqE hz ((hE.mono L1).mono L2) S2 h2 fun d3 st3 μ3 v3 H3 L3 r3 S3 h3 => ?_
    cases d with
    | int i =>
      cases d2 with
      | int j =>
        cases d3 with
        | int k =>
          obtain ⟨hj, q⟩ := pst_ite (show (if (inR62 i && inR62 j && decide (k = -1)) = true then R.ok (downFrom i (i - j).toNat) st3 else .no).pst _ _ from h3)
          obtain ⟨hj, h7⟩ := b_and hj
          obtain ⟨h5, h6⟩ := b_and hj
          obtain ⟨g1, g2⟩ := in62 h5
          obtain ⟨g3, g4⟩ := in62 h6
          have ek := of_decide_eq_true h7
          subst ek
          have e : v = .int i := r1
          have e2 : v2 = .int j := r2
          have e3 : v3 = .int (-1) := r3
          subst e e2 e3
          exact ⟨i, j, -1, (i - j).toNat, rfl, RgC.neg g1 g2 g3 g4, (show PostI X.K μ H ⟨downFrom i (i - j).toNat, [], false⟩ st3 W from q) μ3 _ H3 ((L1.trans L2).trans L3) S3 it_rngD⟩
        | _ => exact h3.elim
      | _ => exact h3.elim
    | _ => exact h3.elim
/-! ### tests -/
theorem t_val (hz : ZMono Z) (ht : tst xa = true) (ha : PE X xa (tE X.K Z r a)) : PT X xa (tT X.K Z (step P n r rc) (.val a)) :=
  impT (pt_tru ha ht) fun σ H Q ⟨μ, env, st, hE, hS, h⟩ => seqE hz hE hS h fun d st1 μ1 v H1 L1 r1 S1 h1 => by
    obtain ⟨k, e, q⟩ := pst_okO h1
    exact ⟨μ1, d, st1, k, S1, r1, e, q μ1 H1 L1 S1⟩
/-- a test whose value is a bool for sure -/
theorem t_bool (hz : ZMono Z) (ha : PT X xa (fun σ H Q => tE X.K Z r a σ H fun x H' => ∃ k, x = .bl k ∧ Q k H')) (hb : ∀ env st d st', r.e a env st = .ok d st' → ∃ k, d = .bl k) : PT X xa (tT X.K Z (step P n r rc) (.val a)) :=
  impT ha fun σ H Q ⟨μ, env, st, hE, hS, h⟩ => by
    have h : ((r.e a env st).bind fun d st => okO st (truth st d)).pst (fun d st' => PostT X.K μ H d st' Q) (Z μ H) := h
    refine ⟨μ, env, st, hE, hS, ?_⟩
    have h := pst_bind h
    cases e : r.e a env st with
    | no => rw [e] at h; exact h
    | ex x st1 => rw [e] at h; exact h
    | ok d st1 =>
      rw [e] at h
      obtain ⟨k, rfl⟩ := hb env st d st1 e
      have q : PostT X.K μ H k st1 Q := h
      exact fun μ' v H' L rv S => ⟨k, rv, q μ' H' L S⟩
theorem t_not (hz : ZMono Z) (ha : PT X xa (tT X.K Z r a)) : PT X (.UnaryOp .Not xa pos) (tT X.K Z (step P n r rc) (.not a)) :=
  impT (pt_not ha) fun σ H Q ⟨μ, env, st, hE, hS, h⟩ => seqT hz hE hS h fun k st1 μ1 H1 L1 S1 h1 => h1 μ1 H1 L1 S1
theorem t_and {rest : List Expr} (hz : ZMono Z) (ha : PT X xa (tT X.K Z r a)) (hb : PW X (.BoolOp .And (xb :: rest) pos) (tT X.K Z r b)) : PW X (.BoolOp .And (xa :: xb :: rest) pos) (tT X.K Z (step P n r rc) (.and a b)) :=
  ⟨fun wh pins s σ H Q I ⟨μ, env, st, hE, hS, h⟩ => (pw_and ha hb).run wh pins s σ H Q I (seqT hz hE hS h fun k st1 μ1 H1 L1 S1 h1 => by
    cases k with
    | true => exact ⟨μ1, env, st1, hE.mono L1, S1, pst_mono h1 (fun _ _ q μ2 H2 L2 S2 => q μ2 H2 (L1.trans L2) S2) fun _ _ z => z⟩
    | false => exact h1 μ1 H1 L1 S1)⟩
theorem t_or {rest : List Expr} (hz : ZMono Z) (ha : PT X xa (tT X.K Z r a)) (hb : PW X (.BoolOp .Or (xb :: rest) pos) (tT X.K Z r b)) : PW X (.BoolOp .Or (xa :: xb :: rest) pos) (tT X.K Z (step P n r rc) (.or a b)) :=
  ⟨fun wh pins s σ H Q I ⟨μ, env, st, hE, hS, h⟩ => (pw_or ha hb).run wh pins s σ H Q I (seqT hz hE hS h fun k st1 μ1 H1 L1 S1 h1 => by
    cases k with
    | false => exact ⟨μ1, env, st1, hE.mono L1, S1, pst_mono h1 (fun _ _ q μ2 H2 L2 S2 => q μ2 H2 (L1.trans L2) S2) fun _ _ z => z⟩
    | true => exact h1 μ1 H1 L1 S1)⟩
end
end Ev
end

section
set_option Elab.async false
set_option linter.all false
set_option maxRecDepth 100000
set_option maxHeartbeats 2000000
/-! Snd13b: enumerate, zip, reversed ranges, as what is walked. -/
namespace Ev
open PySem PySem.Spec L2
section
variable {X : Cx} {Z : ZT} {P : List Fn} {n : Nat} {r rc : Ev} {a b c : E} {xa xb xc tg : Expr} {pos p p2 pos2 : Pos} {es : List Expr} {x : Str}
theorem starOne {e : Expr} {env : PySem.Env} (h : nst e = true) : starEach [e] env = [(false, eval e env)] := star_cons h
theorem i_enum {elts : List Expr} {kk : Nat} {tpos : Pos} (hz : ZMono Z) (hg : Gl X "enumerate") (hm : X.mg "enumerate" = none) (ha : PE X xa (tE X.K Z r a)) (hn : nst xa = true) :
    PI X (.Tuple elts kk tpos) (.Call (.Name "enumerate" p) [xa] [] pos) (tI X.K Z (step P n r rc) (.blt .enumerate (.cons a .nil))) :=
  impI (pi_enumA hg hm (pa_cons ha pa_nil (star_cons hn)) (starOne hn)) fun σ H W ⟨μ, env, st, hE, hS, h⟩ => by
    have h : ((r.e a env st).bind fun d st => (match rowOf d st with | some xs => R.ok (⟨numD 0 xs, srcD d xs, true⟩ : Ev.It) st | none => .no)).pst (fun it st' => PostI X.K μ H it st' W) (Z μ H) := h
    refine seqE hz hE hS h fun d st1 μ1 v H1 L1 r1 S1 h1 => ?_
    cases e : rowOf d st1 with
    | none => rw [e] at h1; exact h1.elim
    | some xs =>
      rw [e] at h1
      have q : PostI X.K μ H ⟨numD 0 xs, srcD d xs, true⟩ st1 W := h1
      obtain ⟨a0, vs, rfl, hv, hk⟩ := row_of S1 r1 e
      rcases hk with ⟨l, rfl, h2⟩ | ⟨rfl, its, h2⟩
      · obtain ⟨a1, h3, e3⟩ := r1
        cases e3
        exact ⟨a0, vs, rfl, .inl ⟨.inl (.inl h2), q μ1 _ H1 L1 S1 (it_enumL h3)⟩⟩
      · exact ⟨a0, vs, rfl, .inr ⟨.inl (.inr ⟨_, h2⟩), q μ1 _ H1 L1 S1 (it_enumT h2 hv)⟩⟩
theorem i_zip {elts : List Expr} {kk : Nat} {tpos : Pos} (hz : ZMono Z) (hg : Gl X "zip") (hm : X.mg "zip" = none) (ha : PE X xa (tE X.K Z r a)) (hb : PE X xb (tE X.K Z r b)) (hn : nst xa = true) (hn2 : nst xb = true) :
    PI X (.Tuple elts kk tpos) (.Call (.Name "zip" p) [xa, xb] [] pos) (tI X.K Z (step P n r rc) (.blt .zip (.cons a (.cons b .nil)))) :=
  impI (RZ.pi_zipA hg hm (pa_cons ha (pa_cons hb pa_nil (star_cons hn2)) (star_cons hn)) (star_cons hn) (by rw [star_cons hn2]; rfl)) fun σ H W ⟨μ, env, st, hE, hS, h⟩ => by
    have h : ((r.e a env st).bind fun d st => (r.e b env st).bind fun d' st => (match rowOf d st with
              | some xs => (match rowOf d' st with
                | some ys => if (D.isRef d == D.isRef d') = true then R.ok (⟨zipD xs ys, srcD d xs ++ srcD d' ys, true⟩ : Ev.It) st else .no
                | none => .no)
              | none => .no)).pst (fun it st' => PostI X.K μ H it st' W) (Z μ H) := h
    refine seqE hz hE hS h fun d st1 μ1 v H1 L1 r1 S1 h1 => seqE hz (hE.mono L1) S1 h1 fun d2 st2 μ2 v2 H2 L2 r2 S2 h2 => ?_
    have r1 := r1.mono L2
    cases e : rowOf d st2 with
    | none => rw [e] at h2; exact h2.elim
    | some xs =>
      rw [e] at h2
      have h2 : (match rowOf d2 st2 with
                | some ys => if (D.isRef d == D.isRef d2) = true then R.ok (⟨zipD xs ys, srcD d xs ++ srcD d2 ys, true⟩ : Ev.It) st2 else .no
                | none => .no).pst (fun it st' => PostI X.K μ H it st' W) (Z μ2 H2) := h2
      cases e2 : rowOf d2 st2 with
      | none => rw [e2] at h2; exact h2.elim
      | some ys =>
        rw [e2] at h2
        obtain ⟨hk, q⟩ := pst_ite (show (if (D.isRef d == D.isRef d2) = true then R.ok (⟨zipD xs ys, srcD d xs ++ srcD d2 ys, true⟩ : Ev.It) st2 else .no).pst (fun it st' => PostI X.K μ H it st' W) (Z μ2 H2) from h2)
        have q : PostI X.K μ H ⟨zipD xs ys, srcD d xs ++ srcD d2 ys, true⟩ st2 W := q
        obtain ⟨a0, vs, rfl, hv, hk1⟩ := row_of S2 r1 e
        obtain ⟨b0, ws, rfl, hw, hk2⟩ := row_of S2 r2 e2
        rcases hk1 with ⟨l, rfl, h3⟩ | ⟨rfl, its, h3⟩
        · rcases hk2 with ⟨m, rfl, h4⟩ | ⟨rfl, its2, h4⟩
          · obtain ⟨a1, g1, e3⟩ := r1
            cases e3
            obtain ⟨b1, g2, e4⟩ := r2
            cases e4
            exact ⟨a0, b0, vs, ws, rfl, .inl ⟨.inl (.inl h3), .inl (.inl h4), q μ2 _ H2 (L1.trans L2) S2 (it_zipL g1 g2)⟩⟩
          · exact absurd hk Bool.false_ne_true
        · rcases hk2 with ⟨m, rfl, h4⟩ | ⟨rfl, its2, h4⟩
          · exact absurd hk Bool.false_ne_true
          · exact ⟨a0, b0, vs, ws, rfl, .inr ⟨.inl (.inr ⟨_, h3⟩), .inl (.inr ⟨_, h4⟩), q μ2 _ H2 (L1.trans L2) S2 (it_zipT h3 hv h4 hw)⟩⟩
theorem i_rev {as : E} {args : List Expr} (hz : ZMono Z) (hg : Gl X "reversed") (hm : X.mg "reversed" = none) (hg2 : Gl X "range") (hm2 : X.mg "range" = none)
    (ha : (∃ a xa, as = .cons a .nil ∧ args = [xa] ∧ PE X xa (tE X.K Z r a) ∧ nst xa = true) ∨ ∃ a b xa xb, as = .cons a (.cons b .nil) ∧ args = [xa, xb] ∧ PE X xa (tE X.K Z r a) ∧ PE X xb (tE X.K Z r b) ∧ nst xa = true ∧ nst xb = true) :
    PI X tg (.Call (.Name "reversed" p) [.Call (.Name "range" p2) args [] pos2] [] pos) (tI X.K Z (step P n r rc) (.blt .reversed (.cons (.blt .range as) .nil))) := by
  rcases ha with ⟨a, xa, rfl, rfl, ha, hn⟩ | ⟨a, b, xa, xb, rfl, rfl, ha, hb, hn, hn2⟩
  · refine impI (pi_revR hg hm (prg_1 hg2 hm2 ha (star_cons hn)) rfl) fun σ H W ⟨μ, env, st, hE, hS, h⟩ => ?_
    have h : (((r.e a env st).bind fun x st => (match x with | .int n => if inR62 n = true then R.ok (intsFrom 0 n.toNat) st else .no | _ => .no)).bind fun xs st => R.ok (⟨xs.reverse, [], false⟩ : Ev.It) st).pst (fun it st' => PostI X.K μ H it st' W) (Z μ H) := h
    refine seqE hz hE hS (pst_bind h) fun d st1 μ1 v H1 L1 r1 S1 h1 => ?_
    cases d with
    | int j =>
      obtain ⟨hj, q⟩ := pst_ite (show (if inR62 j = true then R.ok (intsFrom 0 j.toNat) st1 else .no).pst _ _ from h1)
      cases (show v = .int j from r1)
      obtain ⟨g1, g2⟩ := in62' hj
      have e0 : (j - 0).toNat = j.toNat := by rw [Int.sub_zero]
      have q : PostI X.K μ H ⟨(intsFrom 0 j.toNat).reverse, [], false⟩ st1 W := q
      rw [← e0] at q
      exact ⟨j, rfl, by omega, by omega, g1, g2, q μ1 _ H1 L1 S1 it_rngr⟩
    | _ => exact h1.elim
  · refine impI (pi_revR hg hm (prg_2 hg2 hm2 ha hb (star_cons hn) (star_cons hn2) (by rw [star_cons hn2]; rfl)) rfl) fun σ H W ⟨μ, env, st, hE, hS, h⟩ => ?_
    have h : (((r.e a env st).bind fun x st => (r.e b env st).bind fun y st => (match x with | .int lo => (match y with | .int hi => if (inR62 lo && inR62 hi) = true then R.ok (intsFrom lo (hi - lo).toNat) st else .no | _ => .no) | _ => .no)).bind fun xs st => R.ok (⟨xs.reverse, [], false⟩ : Ev.It) st).pst (fun it st' => PostI X.K μ H it st' W) (Z μ H) := h
    refine seqE hz hE hS (pst_bind h) fun d st1 μ1 v H1 L1 r1 S1 h1 => seqE hz (hE.mono L1) S1 h1 fun d2 st2 μ2 v2 H2 L2 r2 S2 h2 => ?_
    cases d with
    | int i =>
      cases d2 with
      | int j =>
        obtain ⟨hj, q⟩ := pst_ite (show (if (inR62 i && inR62 j) = true then R.ok (intsFrom i (j - i).toNat) st2 else .no).pst _ _ from h2)
        obtain ⟨h5, h6⟩ := b_and hj
        cases (show v = .int i from r1)
        cases (show v2 = .int j from r2)
        obtain ⟨g1, g2⟩ := in62' h5
        obtain ⟨g3, g4⟩ := in62' h6
        have q : PostI X.K μ H ⟨(intsFrom i (j - i).toNat).reverse, [], false⟩ st2 W := q
        exact ⟨i, j, rfl, rfl, g1, g2, g3, g4, q μ2 _ H2 (L1.trans L2) S2 it_rngr⟩
      | _ => exact h2.elim
    | _ => exact h2.elim
end
end Ev
end

section
set_option Elab.async false
set_option linter.all false
set_option maxRecDepth 100000
set_option maxHeartbeats 2000000
/-! Snd13c: a dict is locked while a loop walks it. -/
namespace Ev
open PySem PySem.Spec L2
theorem lockOf_ok {e : E} {env : Env} {st : Sto} {l : Nat} (h : lockOf e env st = some l) : ∃ kvs, sget st l = some (.dct kvs) ∨ sget st l = some (.dcT kvs) := by
  unfold lockOf at h
  dsimp only at h
  split at h
  · split at h
    · split at h
      · rename_i kvs e1
        cases h
        exact ⟨kvs, .inl e1⟩
      · rename_i kvs e1
        cases h
        exact ⟨kvs, .inr e1⟩
      · cases h
    · cases h
  · cases h
theorem locked_some {α : Type} {B : α → Sto → Prop} {Zp : Exn → Sto → Prop} {l : Nat} {f : Sto → R α} {st : Sto} (h : (locked (some l) f st).pst B Zp) : ∃ a st1, f (lock l st) = .ok a st1 ∧ B a (unlock l st1) := by
  unfold locked at h
  dsimp only at h
  cases e : f (lock l st) with
  | no => rw [e] at h; exact h.elim
  | ex _ _ => rw [e] at h; exact h.elim
  | ok a st1 =>
    rw [e] at h
    exact ⟨a, st1, rfl, h⟩
section
variable {K : PySem.W.Frag} {μ μ2 : List Addr} {H H2 : Hp} {st st2 : Sto} {l : Nat}
/-- the thing at l, ahead of the lock -/
theorem lock_ok (S : StR K μ H st) {kvs : List (D × D)} (h : sget st l = some (.dct kvs) ∨ sget st l = some (.dcT kvs)) : ∃ a u, μ[l]? = some a ∧ H a = some u ∧ Mut (some u) ∧ ¬ Imm u ∧ ∀ od, StR K μ (upd H a (.frz od u)) (lock l st) ∧ Le μ H μ (upd H a (.frz od u)) := by
  have hl : l < st.length := by
    rcases h with h | h <;> (rw [sget_eq] at h; exact (List.getElem?_eq_some_iff.mp h).1)
  obtain ⟨a, ha⟩ : ∃ a, μ[l]? = some a := ⟨_, List.getElem?_eq_getElem (by rw [S.len]; exact hl)⟩
  rcases h with h | h
  · obtain ⟨l', h1, h2⟩ := (show ∃ l, H a = some (.dK l) ∧ KVR K μ H kvs l from S.at_ ha h)
    refine ⟨a, _, ha, h1, trivial, fun z => z, fun od => ?_⟩
    have L := le_put ha h1 (fun z => z) (.frz od (.dK l'))
    refine ⟨?_, L⟩
    have e : lock l st = sput st l (.lck kvs) := by unfold lock; rw [h]
    rw [e, sput_eq]
    exact S.put ha h1 (fun z => z) ⟨od, l', upd_same, h2.mono L⟩
  · obtain ⟨l', h1, h2⟩ := (show ∃ l, H a = some (.ext (TDp a l)) ∧ KVT K μ H kvs l from S.at_ ha h)
    refine ⟨a, _, ha, h1, trivial, fun z => z, fun od => ?_⟩
    have L := le_put ha h1 (fun z => z) (.frz od (.ext (TDp a l')))
    refine ⟨?_, L⟩
    have e : lock l st = sput st l (.lcT kvs) := by unfold lock; rw [h]
    rw [e, sput_eq]
    exact S.put ha h1 (fun z => z) ⟨od, l', upd_same, h2.mono L⟩
/-- a datum leans on no dict -/
theorem immD_ne {a : Addr} {od : Obj} {u : HO} (ni : ∀ x, ImmD x → x ≠ .frz od u) (h : H2 a = some (.frz od u)) (v : HO) : ∀ b o, H2 b = some o → ImmD o → upd H2 a v b = some o := fun b o e i => by
  rw [upd_ne (fun z => by rw [z, h] at e; cases e; exact ni _ i rfl)]
  exact e
/-- behind the loop -/
theorem unlock_ok {a : Addr} {od : Obj} {u : HO} (S : StR K μ H st) (ha : μ[l]? = some a) (hu : H a = some u) {kvs : List (D × D)} (hk : sget st l = some (.dct kvs) ∨ sget st l = some (.dcT kvs)) (L : Le μ (upd H a (.frz od u)) μ2 H2) (S2 : StR K μ2 H2 st2) :
    H2 a = some (.frz od u) ∧ Le μ H μ2 (upd H2 a u) ∧ StR K μ2 (upd H2 a u) (unlock l st2) ∧ (∀ {d v}, Rep K μ2 H2 d v → Rep K μ2 (upd H2 a u) d v) ∧ ∀ {env σ}, EnvR K μ2 H2 env σ → EnvR K μ2 (upd H2 a u) env σ := by
  have h2 : H2 a = some (.frz od u) := L.im a _ upd_same trivial
  have ha2 := L.pre l a ha
  have m : a ∈ μ := List.mem_of_getElem? ha
  have kind : (∃ l', u = .dK l') ∨ ∃ l', u = .ext (TDp a l') := by
    rcases hk with h | h
    · obtain ⟨l', h1, _⟩ := (show ∃ l, H a = some (.dK l) ∧ KVR K μ H kvs l from S.at_ ha h)
      rw [hu] at h1
      exact .inl ⟨l', Option.some.inj h1⟩
    · obtain ⟨l', h1, _⟩ := (show ∃ l, H a = some (.ext (TDp a l)) ∧ KVT K μ H kvs l from S.at_ ha h)
      rw [hu] at h1
      exact .inr ⟨l', Option.some.inj h1⟩
  have ni : ∀ x, ImmD x → x ≠ .frz od u := by
    intro x hx e
    subst e
    rcases kind with ⟨l', rfl⟩ | ⟨l', rfl⟩ <;> exact hx
  have nu : ¬ Imm u := by
    rcases kind with ⟨l', rfl⟩ | ⟨l', rfl⟩ <;> exact fun z => z
  have hi := immD_ne ni h2 u
  have rep : ∀ {d v}, Rep K μ2 H2 d v → Rep K μ2 (upd H2 a u) d v := fun r => r.monoD (fun _ _ z => z) hi
  have hl2 : l < st2.length := by
    rw [← S2.len]
    exact (List.getElem?_eq_some_iff.mp ha2).1
  have ob : ∃ o, sget st2 l = some o ∧ ((∃ k, o = .lck k) ∨ ∃ k, o = .lcT k) ∧ ObjR K μ2 H2 a o := by
    have e : st2[l]? = some st2[l] := List.getElem?_eq_getElem hl2
    have r := S2.ob l a _ ha2 e
    refine ⟨st2[l], by rw [sget_eq]; exact e, ?_, r⟩
    generalize st2[l] = o at r
    cases o with
    | lst xs => obtain ⟨_, h, _⟩ := r; rw [h2] at h; cases h
    | dct xs => obtain ⟨_, h, _⟩ := r; rw [h2] at h; cases h
    | dcT xs => obtain ⟨_, h, _⟩ := r; rw [h2] at h; cases h
    | lck k => exact .inl ⟨k, rfl⟩
    | lcT k => exact .inr ⟨k, rfl⟩
    | set _ => exact r.elim
    | ins _ _ => exact r.elim
  refine ⟨h2, ⟨L.pre, fun b o e n => ?_, fun b o e i => ?_, fun b mb n => ?_⟩, ?_, rep, fun hE => ⟨hE.len, fun i d e => ?_⟩⟩
  · have nb : b ≠ a := fun z => n (z ▸ m)
    rw [upd_ne nb]
    exact L.kp b o (by rw [upd_ne nb]; exact e) n
  · have nb : b ≠ a := fun z => by rw [z, hu] at e; cases e; exact nu i
    rw [upd_ne nb]
    exact L.im b o (by rw [upd_ne nb]; exact e) i
  · have nb : b ≠ a := fun z => n (z ▸ m)
    have := L.nw b mb n
    rwa [upd_ne nb] at this
  · obtain ⟨o, e, kd, r⟩ := ob
    have others : ∀ (k : Nat) (b : Addr) (x : O), k ≠ l → μ2[k]? = some b → st2[k]? = some x → ObjR K μ2 (upd H2 a u) b x := fun k b x hkl e1 e2 => by
      have hb : b ≠ a := fun z => by
        subst z
        exact hkl (nodup_ix' S2.nd e1 ha2)
      exact (S2.ob k b x e1 e2).monoD (fun _ _ z => z) hi (upd_ne hb)
    have put : ∀ o', ObjR K μ2 (upd H2 a u) a o' → StR K μ2 (upd H2 a u) (st2.set l o') := fun o' r' => by
      refine ⟨by simp [S2.len], S2.nd, fun k b x e1 e2 => ?_⟩
      by_cases hkl : k = l
      · subst hkl
        rw [ha2] at e1
        cases e1
        rw [List.getElem?_set_self hl2] at e2
        cases e2
        exact r'
      · rw [List.getElem?_set_ne (Ne.symm hkl)] at e2
        exact others k b x hkl e1 e2
    rcases kd with ⟨k, rfl⟩ | ⟨k, rfl⟩
    · have e3 : unlock l st2 = sput st2 l (.dct k) := by unfold unlock; rw [e]
      rw [e3, sput_eq]
      obtain ⟨ob, l', h3, r'⟩ := r
      rw [h2] at h3
      cases h3
      exact put _ ⟨l', upd_same, Pr.imp r' fun _ _ z => ⟨z.1, rep z.2⟩⟩
    · have e3 : unlock l st2 = sput st2 l (.dcT k) := by unfold unlock; rw [e]
      rw [e3, sput_eq]
      obtain ⟨ob, l', h3, r'⟩ := r
      rw [h2] at h3
      cases h3
      exact put _ ⟨l', upd_same, Pr.imp r' fun _ _ z => ⟨z.1, let ⟨its, q⟩ := z.2.1; ⟨its, hi _ _ q trivial⟩, rep z.2.2⟩⟩
  · obtain ⟨v, h1, h3⟩ := hE.at_ i d e
    exact ⟨v, h1, rep h3⟩
end
end Ev
end

section
set_option Elab.async false
set_option linter.all false
set_option maxRecDepth 100000
set_option maxHeartbeats 2000000
/-! Snd14: statements. -/
namespace Ev
open PySem PySem.Spec L2
abbrev LSt := L2.St
theorem PostS.mono {K : PySem.W.Frag} {μ μ' : List Addr} {H H' : Hp} {o : Out} {st : Sto} {D : Ends} (p : PostS K μ H o st D) (L : Le μ H μ' H') : PostS K μ' H' o st D := by
  cases o with
  | nx env => exact fun μ2 σ2 H2 L2 => p μ2 σ2 H2 (L.trans L2)
  | rt d => exact fun μ2 v H2 L2 => p μ2 v H2 (L.trans L2)
  | bk env => exact fun μ2 σ2 H2 L2 => p μ2 σ2 H2 (L.trans L2)
  | ct env => exact fun μ2 σ2 H2 L2 => p μ2 σ2 H2 (L.trans L2)
theorem pst_bind_val {α β : Type} {r : R α} {f : α → Sto → R β} {Q : β → Sto → Prop} {Z : Exn → Sto → Prop} (h : (r.val.bind f).pst Q Z) : r.val.pst (fun a st => (f a st).pst Q Z) Z := pst_bind h
/-- no comprehension -/
def ncmp : Expr → Bool
  | .ListComp .. | .SetComp .. | .DictComp .. => false
  | _ => true
section
variable {X : Cx} {Z : ZT} {P : List Fn} {n : Nat} {r rc : Ev} {a b c : E} {xa xb xc tg : Expr} {pos p p2 apos : Pos} {es : List Expr} {x : Str} {s t : S} {xs : Stmt} {ys : List Stmt}
theorem s_skip : PSs X [] (tS X.K Z (step P n r rc) .skip) := impSs pss_nil fun D σ H ⟨μ, env, st, hE, hS, h⟩ => h μ σ H .refl hE hS
theorem s_seq (hz : ZMono Z) (h1 : PS X xs (tS X.K Z r s)) (h2 : PSs X ys (tS X.K Z r t)) : PSs X (xs :: ys) (tS X.K Z (step P n r rc) (.seq s t)) :=
  impSs (pss_cons h1 h2) fun D σ H ⟨μ, env, st, hE, hS, h⟩ => ⟨μ, env, st, hE, hS, pst_mono (pst_bind h) (fun o st1 q => by
    cases o with
    | nx env1 => exact fun μ' σ' H' L hE' S' => ⟨μ', env1, st1, hE', S', pst_mono q (fun _ _ p => PostS.mono p L) fun _ _ z => hz _ _ _ _ _ _ L z⟩
    | rt d => exact q
    | bk env1 => exact q
    | ct env1 => exact q) fun _ _ z => z⟩
theorem swaps_no {v : Expr} {t : Option Expr} {l : Nat} {env : PySem.Env} (h : ncmp v = true) : swapsWith v t l env = pure false := by
  cases v <;> first | rfl | cases h
theorem s_exp (hz : ZMono Z) (ha : PE X xa (tE X.K Z r a)) (hs : ncmp xa = true) : PS X (.Expr xa pos) (tS X.K Z (step P n r rc) (.exp a)) :=
  impS (ps_expr ha (swaps_no hs)) fun D σ H ⟨μ, env, st, hE, hS, h⟩ => seqE hz hE hS h fun d st1 μ1 v H1 L1 r1 S1 h1 => h1 μ1 σ H1 L1 (hE.mono L1) S1
theorem s_ret (hz : ZMono Z) (ha : PE X xa (tE X.K Z r a)) : PS X (.Return (some xa) pos) (tS X.K Z (step P n r rc) (.ret a)) :=
  impS (ps_ret ha) fun D σ H ⟨μ, env, st, hE, hS, h⟩ => seqE hz hE hS h fun d st1 μ1 v H1 L1 r1 S1 h1 => h1 μ1 v H1 L1 r1 S1
theorem s_retn : PS X (.Return none pos) (tS X.K Z (step P n r rc) .retn) := impS ps_retN fun D σ H ⟨μ, env, st, hE, hS, h⟩ => h μ .non H .refl rfl hS
theorem s_brk : PS X (.Break pos) (tS X.K Z (step P n r rc) .brk) := impS ps_break fun D σ H ⟨μ, env, st, hE, hS, h⟩ => h μ σ H .refl hE hS
theorem s_cnt : PS X (.Continue pos) (tS X.K Z (step P n r rc) .cnt) := impS ps_continue fun D σ H ⟨μ, env, st, hE, hS, h⟩ => h μ σ H .refl hE hS
theorem s_pass : PS X (.Pass pos) (tS X.K Z (step P n r rc) .skip) := impS ps_pass fun D σ H ⟨μ, env, st, hE, hS, h⟩ => h μ σ H .refl hE hS
theorem s_nev : PS X xs (tS X.K Z (step P n r rc) .nev) := impS ps_never fun D σ H ⟨μ, env, st, hE, hS, h⟩ => h
theorem s_nevs : PSs X ys (tS X.K Z (step P n r rc) .nev) := impSs pss_never fun D σ H ⟨μ, env, st, hE, hS, h⟩ => h
theorem s_ife {as bs : List Stmt} {sa sb : S} (hz : ZMono Z) (hc : PT X xc (tT X.K Z r c)) (ha : PSs X as (tS X.K Z r sa)) (hb : PSs X bs (tS X.K Z r sb)) : PS X (.If xc as bs pos) (tS X.K Z (step P n r rc) (.ife c sa sb)) :=
  impS (ps_if hc ha hb) fun D σ H ⟨μ, env, st, hE, hS, h⟩ => seqT hz hE hS h fun k st1 μ1 H1 L1 S1 h1 => by
    cases k with
    | true => exact ⟨μ1, env, st1, hE.mono L1, S1, pst_mono h1 (fun _ _ p => PostS.mono p L1) fun _ _ z => z⟩
    | false => exact ⟨μ1, env, st1, hE.mono L1, S1, pst_mono h1 (fun _ _ p => PostS.mono p L1) fun _ _ z => z⟩
/-! ### stores -/
theorem s_asgN {i : Nat} {p' : Pos} (hz : ZMono Z) (hN : X.N.Nodup) (hi : X.N[i]? = some x) (hx : Loc X.env.scope x) (hf : X.fn x = true ∨ X.env.scope.names.lookup x = some .local) (ha : PE X xa (tE X.K Z r a)) (hs : swapsWith xa (some (.Name x p')) pos.line X.env = pure false) :
    PS X (.Assign [.Name x p'] xa pos) (tS X.K Z (step P n r rc) (.asg (.nm i) a)) :=
  impS (ps_set hN hi hx ha hs hf) fun D σ H ⟨μ, env, st, hE, hS, h⟩ => seqE hz hE hS h fun d st1 μ1 v H1 L1 r1 S1 h1 => by
    have h1 : PostS X.K μ H (.nx (env.put i d)) st1 D := h1
    exact h1 μ1 _ H1 L1 ((hE.mono L1).put r1) S1
def isTupE : Expr → Bool
  | .Tuple .. => true
  | _ => false
theorem swapped_no {ts : List Expr} {v : Expr} {env : PySem.Env} (h : isTupE v = false) : swappedStores ts v env = pure none := by
  cases v <;> first | (cases h) | skip
  all_goals (unfold swappedStores; cases ts with
    | nil => rfl
    | cons t ts => cases t <;> cases ts <;> rfl)
theorem s_asgT {T' : Ev.T} {g : Expr} (hz : ZMono Z) (hw : T'.wf = true) (hg : PG X g (gT X.K T')) (ha : PE X xa (tE X.K Z r a)) (hs : swapsWithSole [g] xa pos.line X.env = pure false) (hsw : swappedStores [g] xa X.env = pure none) (h1 : (assignEach [g] X.env).map (·.2) = [assign g X.env]) :
    PS X (.Assign [g] xa pos) (tS X.K Z (step P n r rc) (.asg T' a)) :=
  impS (ps_asg ha hg hs hsw h1) fun D σ H ⟨μ, env, st, hE, hS, h⟩ => seqE hz hE hS h fun d st1 μ1 v H1 L1 r1 S1 h1 => by
    have h1 : (match T.take T' d env with | some env => R.ok (Out.nx env) st1 | none => .no).pst (fun o st' => PostS X.K μ H o st' D) (Z μ1 H1) := h1
    cases e : T.take T' d env with
    | none => rw [e] at h1; exact h1.elim
    | some env' =>
      rw [e] at h1
      exact take_t T' d env env' hw e σ v D.nx (hE.mono L1) r1 fun σ' hE' => (show PostS X.K μ H (.nx env') st1 D from h1) μ1 σ' H1 L1 hE' S1
theorem store_ok {K : PySem.W.Frag} {μ : List Addr} {H : Hp} {dx dy dv : D} {o i v : V} {st st' : Sto} {u : Unit} (S : StR K μ H st) (r1 : Rep K μ H dx o) (r2 : Rep K μ H dy i) (r3 : Rep K μ H dv v) (h : store dx dy dv st = .ok u st') {Q : Hp → Prop}
    (k : ∀ H', Le μ H μ H' → StR K μ H' st' → Q H') : vSet K o i v H Q := ⟨μ, dx, dy, dv, st, st', u, S, r1, r2, r3, h, k⟩
theorem s_sto {xo xi : Expr} {o i : E} {p' : Pos} (hu : X.A.units + 200 < cLine) (hz : ZMono Z) (he : PE X xa (tE X.K Z r a)) (ho : PE X xo (tE X.K Z r o)) (hi : PE X xi (tE X.K Z r i))
    (has : ∀ v, assign (.Subscript xo xi p') X.env v = (do
      let ov ← holding [v] (eval xo X.env)
      let iv ← holding [v, ov] (eval xi X.env)
      standAt p'
      holding [v, ov, iv] (setItem ov iv v)
      release [v, ov, iv] []))
    (hs : swapsWithSole [.Subscript xo xi p'] xa pos.line X.env = pure false) (hsw : swappedStores [.Subscript xo xi p'] xa X.env = pure none) (h1 : (assignEach [.Subscript xo xi p'] X.env).map (·.2) = [assign (.Subscript xo xi p') X.env]) :
    PS X (.Assign [.Subscript xo xi p'] xa pos) (tS X.K Z (step P n r rc) (.sto o i a)) :=
  impS (ps_asg he (pg_sub ho hi (set_all hu) has) hs hsw h1) fun D σ H ⟨μ, env, st, hE, hS, h⟩ => seqE hz hE hS h fun d st1 μ1 v H1 L1 r1 S1 h1 => seqE hz (hE.mono L1) S1 h1 fun d2 st2 μ2 v2 H2 L2 r2 S2 h2 =>
    seqE hz ((hE.mono L1).mono L2) S2 h2 fun d3 st3 μ3 v3 H3 L3 r3 S3 h3 => by
      obtain ⟨u, st4, e, q⟩ := pst_val (pst_bind_val h3)
      exact store_ok S3 (r2.mono L3) r3 ((r1.mono L2).mono L3) e fun H4 L4 S4 => (show PostS X.K μ H (.nx env) st4 D from q) μ3 σ H4 (((L1.trans L2).trans L3).trans L4) ((((hE.mono L1).mono L2).mono L3).mono L4) S4
/-! ### x op= e -/
theorem ip_all (o : Bop) : PIp X (pyB o) (vBin X.K (iop o)) := by
  intro pins s σ H x y v u Q I rx ry ⟨μ, dx, dy, st, d, st', S, r1, r2, h, p⟩
  cases dx with
  | int i =>
    cases dy with
    | int j =>
      cases (show x = .int i from r1)
      cases (show y = .int j from r2)
      obtain ⟨t, rfl⟩ := rx
      obtain ⟨t', rfl⟩ := ry
      cases o with
      | add =>
        cases (show R.ok (D.int (i + j)) st = .ok d st' from h)
        exact PyProof.Rows.iadd_int ⟨.int _, H, I.tok _, ⟨_, rfl⟩, p.int S⟩
      | sub =>
        cases (show R.ok (D.int (i - j)) st = .ok d st' from h)
        exact PyProof.Rows.isub_int ⟨.int _, H, I.tok _, ⟨_, rfl⟩, p.int S⟩
      | mul =>
        obtain ⟨hb, h⟩ := ite_ok (show (if mulOk i j = true then R.ok (D.int (i * j)) st else R.no) = .ok d st' from h)
        cases h
        refine PyProof.Rows.imul_int ⟨.int _, H, I.tok _, ⟨_, rfl⟩, p.int S⟩ (CMul.ok ?_)
        unfold mulOk at hb
        rw [Bool.or_eq_true] at hb
        rcases hb with hb | hb
        · obtain ⟨h1, h2⟩ := b_and hb
          exact .inl ⟨of_decide_eq_true h1, of_decide_eq_true h2⟩
        · obtain ⟨h1, h2⟩ := b_and hb
          exact .inr ⟨of_decide_eq_true h1, of_decide_eq_true h2⟩
      | fdiv =>
        obtain ⟨hb, h⟩ := ite_ok (show (if (j != 0 && decide (j.natAbs < 1073741824)) = true then R.ok (D.int (i.fdiv j)) st else R.no) = .ok d st' from h)
        cases h
        obtain ⟨h1, h2⟩ := b_and hb
        exact PyProof.Rows.ifloordiv_int (by simpa using h1) ⟨.int _, H, I.tok _, ⟨_, rfl⟩, p.int S⟩ (.inl (PyProof.noPylong_small (of_decide_eq_true h2)))
      | mod =>
        obtain ⟨hb, h⟩ := ite_ok (show (if (j != 0) = true then R.ok (D.int (i.fmod j)) st else R.no) = .ok d st' from h)
        cases h
        exact PyProof.Rows.imod_int (by simpa using hb) ⟨.int _, H, I.tok _, ⟨_, rfl⟩, p.int S⟩
      | pow => cases h
    | _ => cases h
  | str a =>
    cases dy with
    | str b =>
      cases (show x = .str a from r1)
      cases (show y = .str b from r2)
      obtain ⟨t, rfl⟩ := rx
      obtain ⟨t', rfl⟩ := ry
      cases o with
      | add =>
        obtain ⟨hb, h⟩ := ite_ok (show (if small (a.length + b.length) = true then R.ok (D.str (a ++ b)) st else R.no) = .ok d st' from h)
        cases h
        exact PyProof.Rows.iadd_str (fun t' tk => ⟨.str _, H, I.tok _, ⟨_, rfl⟩, p.str S⟩) (small_iff hb)
      | _ => cases h
    | _ => cases h
  | _ => cases h
theorem s_aug {i : Nat} {o : Bop} {p' : Pos} (hz : ZMono Z) (hN : X.N.Nodup) (hi : X.N[i]? = some x) (hx : Loc X.env.scope x) (hf : X.fn x = true ∨ X.env.scope.names.lookup x = some .local) (ha : PE X xa (tE X.K Z r a)) :
    PS X (.AugAssign (.Name x p') (pyB o) xa pos) (tS X.K Z (step P n r rc) (.aug i o a)) :=
  impS (ps_aug hN hi hx ha (ip_all o) hf) fun D σ H ⟨μ, env, st, hE, hS, h⟩ => by
    have h : (match env.get i with | some x => (r.e a env st).bind fun y st => (iop o x y st).val.bind fun z st => R.ok (Out.nx (env.put i z)) st | none => .no).pst (fun o st' => PostS X.K μ H o st' D) (Z μ H) := h
    cases e : env.get i with
    | none => rw [e] at h; exact h.elim
    | some d =>
      rw [e] at h
      obtain ⟨v, h1, h2⟩ := hE.at_ i d e
      refine ⟨v, h1, seqE hz hE hS h fun d1 st1 μ1 w H1 L1 r1 S1 h3 => ?_⟩
      obtain ⟨d3, st3, e3, q⟩ := pst_val (pst_bind_val h3)
      exact ⟨μ1, d, d1, st1, d3, st3, S1, h2.mono L1, r1, e3, fun μ2 z H2 L2 r2 S2 => (show PostS X.K μ H (.nx (env.put i d3)) st3 D from q) μ2 _ H2 (L1.trans L2) (((hE.mono L1).mono L2).put r2) S2⟩
/-! ### while -/
theorem s_whl {bs : List Stmt} {sb : S} (hz : ZMono Z) (hp : PassesOwn (model X.prog X.w) X.A X.env X.xe) (hc : PT X xc (tT X.K Z r c)) (hb : PSs X bs (tS X.K Z r sb)) : PS X (.While xc bs [] pos) (tS X.K Z (step P n r rc) (.whl c sb)) :=
  impS (ps_while hp hc hb) fun D σ H ⟨μ, env, st, hE, hS, h⟩ => by
    refine ⟨fun m σ' H' => ∃ μ' env' st', Le μ H μ' H' ∧ EnvR X.K μ' H' env' σ' ∧ StR X.K μ' H' st' ∧ (whGo r c sb m env' st').pst (fun o st => PostS X.K μ H o st D) (Z μ' H'), ⟨n, μ, env, st, .refl, hE, hS, h⟩, ?_⟩
    rintro m σ1 H1 ⟨μ1, env1, st1, L1, hE1, hS1, h1⟩
    cases m with
    | zero => exact h1.elim
    | succ m =>
      have h1 : ((r.t c env1 st1).bind fun x st => if x = true then (r.s sb env1 st).bind fun o st => (match o with
        | .nx env => whGo r c sb m env st
        | .ct env => whGo r c sb m env st
        | .bk env => .ok (.nx env) st
        | .rt d => .ok (.rt d) st) else .ok (.nx env1) st).pst (fun o st => PostS X.K μ H o st D) (Z μ1 H1) := h1
      refine seqT hz hE1 hS1 h1 fun k st2 μ2 H2 L2 S2 h2 => ?_
      cases k with
      | false => exact (show PostS X.K μ H (.nx env1) st2 D from h2) μ2 σ1 H2 (L1.trans L2) (hE1.mono L2) S2
      | true =>
        refine ⟨fun σ' H' => ∃ μ' env' st', Le μ H μ' H' ∧ EnvR X.K μ' H' env' σ' ∧ StR X.K μ' H' st' ∧ (whGo r c sb m env' st').pst (fun o st => PostS X.K μ H o st D) (Z μ' H'), fun σ' H' q => ⟨m, Nat.lt_succ_self m, q⟩, μ2, env1, st2, hE1.mono L2, S2, ?_⟩
        refine pst_mono (pst_bind h2) (fun o st3 q => ?_) fun _ _ z => z
        cases o with
        | nx env3 => exact fun μ3 σ3 H3 L3 hE3 S3 => ⟨μ3, env3, st3, (L1.trans L2).trans L3, hE3, S3, pst_mono q (fun _ _ z => z) fun _ _ z => hz _ _ _ _ _ _ L3 z⟩
        | ct env3 => exact fun μ3 σ3 H3 L3 hE3 S3 => ⟨μ3, env3, st3, (L1.trans L2).trans L3, hE3, S3, pst_mono q (fun _ _ z => z) fun _ _ z => hz _ _ _ _ _ _ L3 z⟩
        | bk env3 => exact PostS.mono (show PostS X.K μ H (.nx env3) st3 D from q) (L1.trans L2)
        | rt d => exact PostS.mono (show PostS X.K μ H (.rt d) st3 D from q) (L1.trans L2)
end
/-! ### for -/
/-- a loop's state ahead of turn i, with m turns left -/
def FrW (K : PySem.W.Frag) (Z : ZT) (r : Ev) (T' : Ev.T) (sb : S) (it : Ev.It) (μ1 : List Addr) (H1 : Hp) (B : Out → Sto → Prop) (i m : Nat) (σ' : L2.St) (H' : Hp) : Prop :=
  ∃ μ' env' st' rest, Le μ1 H1 μ' H' ∧ EnvR K μ' H' env' σ' ∧ StR K μ' H' st' ∧ rest = it.items.drop i ∧ m = rest.length ∧ (frGo r T' sb it.src rest env' st').pst B (Z μ' H')
section
variable {X : Cx} {Z : ZT} {P : List Fn} {n : Nat} {r rc : Ev} {a b c : E} {xa xb xc tg : Expr} {pos p p2 apos : Pos} {es : List Expr} {x : Str} {s t : S} {xs : Stmt} {ys : List Stmt}
theorem fr_base {bs : List Stmt} {sb : S} {T' : Ev.T} (hz : ZMono Z) (hw : T'.wf = true) (hnp : T'.isNm = false ∨ ∀ env st it st', r.i a env st = .ok it st' → it.pr = false) {D : Ends} {σ : L2.St} {H : Hp} {μ : List Addr} {env : Env} {st : Sto} (hE : EnvR X.K μ H env σ) (hS : StR X.K μ H st)
    (h : ((r.i a env st).bind fun it st => frGo r T' sb it.src it.items env st).pst (fun o st' => PostS X.K μ H o st' D) (Z μ H)) : tFor (tI X.K Z r a) (gT X.K T') (tS X.K Z r sb) D σ H := by
  refine ⟨μ, env, st, hE, hS, ?_⟩
  have h := pst_bind h
  cases ei : r.i a env st with
  | no => rw [ei] at h; exact h
  | ex x st1 => rw [ei] at h; exact h
  | ok it st1 =>
    rw [ei] at h
    have hpr : T'.isNm = false ∨ it.pr = false := hnp.imp id fun q => q env st it st1 ei
    intro μ1 J H1 L1 S1 hJ
    have h : (frGo r T' sb it.src it.items env st1).pst (fun o st' => PostS X.K μ H o st' D) (Z μ H) := h
    refine ⟨FrW X.K Z r T' sb it μ1 H1 (fun o st' => PostS X.K μ H o st' D), ⟨it.items.length, μ1, env, st1, it.items, .refl, hE.mono L1, S1, by simp, rfl, pst_mono h (fun _ _ z => z) fun _ _ z => hz _ _ _ _ _ _ L1 z⟩, ?_⟩
    rintro i m σ2 H2 ⟨μ2, env2, st2, rest, L2, hE2, S2, er, em, h2⟩
    cases rest with
    | nil =>
      have hgo : (if srcOk st2 it.src = true then R.ok (Out.nx env2) st2 else .no).pst (fun o st => PostS X.K μ H o st D) (Z μ2 H2) := h2
      obtain ⟨hsrc, q⟩ := pst_ite hgo
      have hn : it.items[i]? = none := by
        rw [List.getElem?_eq_none_iff]
        exact List.drop_eq_nil_iff.mp er.symm
      exact .inl ⟨((hJ i μ2 H2 st2 L2.le0 S2 hsrc).2 hn), (show PostS X.K μ H (.nx env2) st2 D from q) μ2 σ2 H2 (L1.trans L2) hE2 S2⟩
    | cons y ys =>
      have hy : it.items[i]? = some y := by
        have : (it.items.drop i)[0]? = some y := by rw [← er]; rfl
        simpa using this
      have hys : ys = it.items.drop (i + 1) := by
        have : (it.items.drop i).drop 1 = ys := by rw [← er]; rfl
        rw [← this, List.drop_drop]
      have hgo : (if srcOk st2 it.src = true then (match T.take T' y env2 with
        | some env' => (r.s sb env' st2).bind fun o st => (match o with
          | .nx env => frGo r T' sb it.src ys env st
          | .ct env => frGo r T' sb it.src ys env st
          | .bk env => .ok (.nx env) st
          | .rt d => .ok (.rt d) st)
        | none => .no) else .no).pst (fun o st => PostS X.K μ H o st D) (Z μ2 H2) := h2
      obtain ⟨hsrc, q⟩ := pst_ite hgo
      obtain ⟨g1, g2⟩ := (hJ i μ2 H2 st2 L2.le0 S2 hsrc).1 y hy
      refine .inr ⟨g1, FrW X.K Z r T' sb it μ1 H1 (fun o st' => PostS X.K μ H o st' D) (i + 1) ys.length, fun σ' H' q => ⟨ys.length, by rw [em]; exact Nat.lt_succ_self _, q⟩, fun x H3 hx => ?_⟩
      have hI := g2 x H3 hx
      cases et : T.take T' y env2 with
      | none => rw [et] at q; exact q.elim
      | some env3 =>
        rw [et] at q
        have body : ∀ (μ3 : List Addr) (H3 : Hp), Le μ2 H2 μ3 H3 → StR X.K μ3 H3 st2 → ∀ σ' : LSt, EnvR X.K μ3 H3 env3 σ' →
            tS X.K Z r sb { D with nx := FrW X.K Z r T' sb it μ1 H1 (fun o st' => PostS X.K μ H o st' D) (i + 1) ys.length, ct := FrW X.K Z r T' sb it μ1 H1 (fun o st' => PostS X.K μ H o st' D) (i + 1) ys.length, bk := D.nx } σ' H3 := by
          intro μ3 H3 L3 S3 σ' hE3
          refine ⟨μ3, env3, st2, hE3, S3, pst_mono (pst_bind q) (fun o st4 q4 => ?_) fun _ _ z => hz _ _ _ _ _ _ L3 z⟩
          cases o with
          | nx env4 => exact fun μ4 σ4 H4 L4 hE4 S4 => ⟨μ4, env4, st4, ys, (L2.trans L3).trans L4, hE4, S4, hys, rfl, pst_mono q4 (fun _ _ z => z) fun _ _ z => hz _ _ _ _ _ _ (L3.trans L4) z⟩
          | ct env4 => exact fun μ4 σ4 H4 L4 hE4 S4 => ⟨μ4, env4, st4, ys, (L2.trans L3).trans L4, hE4, S4, hys, rfl, pst_mono q4 (fun _ _ z => z) fun _ _ z => hz _ _ _ _ _ _ (L3.trans L4) z⟩
          | bk env4 => exact PostS.mono (show PostS X.K μ H (.nx env4) st4 D from q4) ((L1.trans L2).trans L3)
          | rt d => exact PostS.mono (show PostS X.K μ H (.rt d) st4 D from q4) ((L1.trans L2).trans L3)
        cases hb : it.pr with
        | false =>
          rw [hb] at hI
          obtain ⟨rfl, rx⟩ := (show H3 = H2 ∧ Rep X.K μ2 H2 y x from hI)
          exact take_t T' y env2 env3 hw et σ2 x _ hE2 rx fun σ' hE3 => body μ2 H3 .refl S2 σ' hE3
        | true =>
          rw [hb] at hI
          obtain ⟨T, v, w, d1, d2, rfl, rfl, hT, rfl, r1, r2⟩ := (show ∃ T v w d1 d2, y = .tup [d1, d2] ∧ x = .ref T ∧ H2 T = none ∧ H3 = upd H2 T (.tup [v, w]) ∧ Rep X.K μ2 H2 d1 v ∧ Rep X.K μ2 H2 d2 w from hI)
          have L3 := le_new S2 hT (.tup [v, w])
          have hnm : T'.isNm = false := hpr.elim id fun z => by rw [hb] at z; cases z
          exact take_pair hw hnm et (hE2.mono L3) (.inl (.inl upd_same)) (r1.mono L3) (r2.mono L3) fun σ' hE3 => body μ2 _ L3 (S2.new hT _) σ' hE3
theorem s_fr {bs : List Stmt} {sb : S} {T' : Ev.T} (hz : ZMono Z) (hp : PassesOwn (model X.prog X.w) X.A X.env X.xe) (hc : X.calm = true) (hi : PI X tg xa (tI X.K Z r a)) (hw : T'.wf = true) (hg : PG X tg (gT X.K T')) (hb : PSs X bs (tS X.K Z r sb))
    (hs : ∀ x, foldedSetIterable xa X.env x = pure x) (hnp : T'.isNm = false ∨ ∀ env st it st', r.i a env st = .ok it st' → it.pr = false) : PS X (.For tg xa bs [] pos) (tS X.K Z (step P n r rc) (.fr T' a sb)) := by
  refine ⟨fun pins s σ H D I ⟨μ, env, st, hE, hS, h⟩ => ?_⟩
  have h : (locked (lockOf a env st) (fun st => (r.i a env st).bind fun it st => frGo r T' sb it.src it.items env st) st).pst (fun o st' => PostS X.K μ H o st' D) (Z μ H) := h
  cases el : lockOf a env st with
  | none =>
    rw [el] at h
    exact (ps_for hp hc hi hg hb hs).run pins s σ H D I (fr_base (bs := bs) hz hw hnp hE hS h)
  | some l =>
    rw [el] at h
    obtain ⟨kvs, hk⟩ := lockOf_ok el
    obtain ⟨d, u, ha, hu, mu, ni, lk⟩ := lock_ok hS hk
    refine (ps_lock (ps_for hp hc hi hg hb hs)).run pins s σ H D I ⟨d, u, hu, mu, fun od => ?_⟩
    obtain ⟨S1, L1⟩ := lk od
    refine fr_base (bs := bs) hz hw hnp (hE.mono L1) S1 ?_
    obtain ⟨o, st1, e, h⟩ := locked_some h
    have e : ((r.i a env (lock l st)).bind fun it st => frGo r T' sb it.src it.items env st) = .ok o st1 := e
    rw [e]
    show PostS X.K μ (upd H d (.frz od u)) o st1 _
    cases o with
      | nx env1 =>
        refine fun μ2 σ2 H2 L2 hE2 S2 => ?_
        obtain ⟨g1, g2, g3, g4, g5⟩ := unlock_ok hS ha hu hk L2 S2
        exact ⟨g1, h μ2 σ2 _ g2 (g5 hE2) g3⟩
      | rt v =>
        refine fun μ2 w H2 L2 rv S2 => ?_
        obtain ⟨g1, g2, g3, g4, g5⟩ := unlock_ok hS ha hu hk L2 S2
        exact ⟨g1, h μ2 w _ g2 (g4 rv) g3⟩
      | bk env1 =>
        refine fun μ2 σ2 H2 L2 hE2 S2 => ?_
        obtain ⟨g1, g2, g3, g4, g5⟩ := unlock_ok hS ha hu hk L2 S2
        exact ⟨g1, h μ2 σ2 _ g2 (g5 hE2) g3⟩
      | ct env1 =>
        refine fun μ2 σ2 H2 L2 hE2 S2 => ?_
        obtain ⟨g1, g2, g3, g4, g5⟩ := unlock_ok hS ha hu hk L2 S2
        exact ⟨g1, h μ2 σ2 _ g2 (g5 hE2) g3⟩
end
end Ev
end

section
set_option Elab.async false
set_option linter.all false
set_option maxRecDepth 100000
set_option maxHeartbeats 2000000
/-! Snd15: list comprehensions. -/
namespace Ev
open PySem PySem.Spec L2
def Same (vs : List Nat) (σ σ' : LSt) : Prop := (∀ j, j ∉ vs → σ'[j]? = σ[j]?) ∧ σ'.length = σ.length
theorem Same.refl {vs : List Nat} {σ : LSt} : Same vs σ σ := ⟨fun _ _ => rfl, rfl⟩
theorem Same.trans {vs ws : List Nat} {σ σ' σ2 : LSt} (h : Same vs σ σ') (h' : Same ws σ' σ2) : Same (vs ++ ws) σ σ2 :=
  ⟨fun j hj => by
    simp only [List.mem_append, not_or] at hj
    rw [h'.1 j hj.2, h.1 j hj.1], h'.2.trans h.2⟩
mutual
theorem gT_same {K : PySem.W.Frag} : ∀ (t : T) (v : V) (σ : LSt) (H : Hp) (Q : LSt → Hp → Prop), gT K t v σ H Q → gT K t v σ H fun σ' H' => Q σ' H' ∧ Same t.slots σ σ'
  | .nm i, v, σ, H, Q, h => ⟨h, fun j hj => by
    have : i ≠ j := fun z => hj (by rw [z]; simp [T.slots])
    rw [List.getElem?_set_ne this], by simp⟩
  | .nil, v, σ, H, Q, ⟨a, xs, e, hq, hl, h⟩ => ⟨a, xs, e, hq, hl, h.1, h.2, Same.refl⟩
  | .cons t r, v, σ, H, Q, ⟨a, xs, e, hq, hl, h⟩ => ⟨a, xs, e, hq, hl, gTs_same (.cons t r) xs σ H Q h⟩
theorem gTs_same {K : PySem.W.Frag} : ∀ (t : T) (vs : List V) (σ : LSt) (H : Hp) (Q : LSt → Hp → Prop), gTs K t vs σ H Q → gTs K t vs σ H fun σ' H' => Q σ' H' ∧ Same t.slots σ σ'
  | .nm i, v, σ, H, Q, h => h.elim
  | .nil, v, σ, H, Q, ⟨e, h⟩ => ⟨e, h, Same.refl⟩
  | .cons t r, xs, σ, H, Q, ⟨v, ys, e, h⟩ => ⟨v, ys, e, gT_mono t v σ H _ _ (fun σ' H' ⟨q, s⟩ => gTs_mono r ys σ' H' _ _ (fun σ2 H2 ⟨q2, s2⟩ => ⟨q2, s.trans s2⟩) (gTs_same r ys σ' H' Q q)) (gT_same t v σ H _ h)⟩
theorem gT_mono {K : PySem.W.Frag} : ∀ (t : T) (v : V) (σ : LSt) (H : Hp) (Q Q' : LSt → Hp → Prop), (∀ σ' H', Q σ' H' → Q' σ' H') → gT K t v σ H Q → gT K t v σ H Q'
  | .nm i, v, σ, H, Q, Q', k, h => k _ _ h
  | .nil, v, σ, H, Q, Q', k, ⟨a, xs, e, hq, hl, h⟩ => ⟨a, xs, e, hq, hl, h.1, k _ _ h.2⟩
  | .cons t r, v, σ, H, Q, Q', k, ⟨a, xs, e, hq, hl, h⟩ => ⟨a, xs, e, hq, hl, gTs_mono (.cons t r) xs σ H Q Q' k h⟩
theorem gTs_mono {K : PySem.W.Frag} : ∀ (t : T) (vs : List V) (σ : LSt) (H : Hp) (Q Q' : LSt → Hp → Prop), (∀ σ' H', Q σ' H' → Q' σ' H') → gTs K t vs σ H Q → gTs K t vs σ H Q'
  | .nm i, v, σ, H, Q, Q', k, h => h.elim
  | .nil, v, σ, H, Q, Q', k, ⟨e, h⟩ => ⟨e, k _ _ h⟩
  | .cons t r, xs, σ, H, Q, Q', k, ⟨v, ys, e, h⟩ => ⟨v, ys, e, gT_mono t v σ H _ _ (fun σ' H' q => gTs_mono r ys σ' H' Q Q' k q) h⟩
end
theorem wipe_get2 {σ : LSt} {j : Nat} : ∀ {vs : List Nat}, j ∉ vs → (L2.wipe σ vs)[j]? = σ[j]?
  | [], _ => rfl
  | v :: vs, h => by
    simp only [List.mem_cons, not_or] at h
    unfold L2.wipe
    rw [List.getElem?_set_ne (Ne.symm h.1)]
    exact wipe_get2 h.2
theorem wipe_in {σ : LSt} {j : Nat} (hj : j < σ.length) : ∀ {vs : List Nat}, j ∈ vs → (L2.wipe σ vs)[j]? = some none
  | v :: vs, h => by
    unfold L2.wipe
    by_cases e : v = j
    · subst e
      rw [List.getElem?_set_self (by rw [L2.wipe_length]; exact hj)]
    · rw [List.getElem?_set_ne e]
      exact wipe_in hj ((List.mem_cons.mp h).resolve_left fun z => e z.symm)
theorem wipe_same {σ σ' : LSt} {vs : List Nat} (h : Same vs (L2.wipe σ vs) σ') : L2.wipe σ' vs = L2.wipe σ vs := by
  apply List.ext_getElem?
  intro j
  have hl : σ'.length = σ.length := by rw [h.2, L2.wipe_length]
  by_cases hj : j ∈ vs
  · by_cases hlt : j < σ.length
    · rw [wipe_in hlt hj, wipe_in (by rw [hl]; exact hlt) hj]
    · rw [List.getElem?_eq_none (by rw [L2.wipe_length, hl]; omega), List.getElem?_eq_none (by rw [L2.wipe_length]; omega)]
  · rw [wipe_get2 hj, h.1 j hj]
/-- a comprehension's state ahead of turn i, with m turns left -/
def LcW (K : PySem.W.Frag) (r : Ev) (T' : Ev.T) (c e : E) (env : Env) (it : Ev.It) (μ1 : List Addr) (H1 : Hp) (A : Addr) (B : List D → Sto → Prop) (Zc : Exn → Sto → Prop) (i m : Nat) (H' : Hp) : Prop :=
  ∃ μ' st' rest acc vs, Le μ1 H1 μ' H' ∧ StR K μ' H' st' ∧ H' A = some (.lst vs) ∧ A ∉ μ' ∧ Paired (Rep K μ' H') acc.reverse vs ∧ acc.length ≤ i ∧ rest = it.items.drop i ∧ m = rest.length ∧ (lcGo r T' c e env it.src rest acc st').pst B Zc
section
variable {X : Cx} {Z : ZT} {P : List Fn} {n : Nat} {r rc : Ev} {a b c e : E} {xa xb xc tg xe : Expr} {pos p p2 apos : Pos} {es : List Expr} {x : Str}
theorem pts_none {Xb : Cx} (hr : ∀ env st, r.t .none env st = .ok true st ∨ r.t .none env st = .no) : PTs Xb [] (tT X.K Z0 r .none) := ⟨fun pins s σ H Q I ⟨μ, env, st, hE, hS, h⟩ => by
  refine pts_nil.run pins s σ H Q I ?_
  rcases hr env st with e | e
  · rw [e] at h
    exact h μ H .refl hS
  · rw [e] at h
    exact h.elim⟩
theorem lc_base {T' : Ev.T} {vs : List Nat} (hz : ZMono Z) (hw : T'.wf = true) (hsl : ∀ j ∈ T'.slots, j ∈ vs) (hnp : T'.isNm = false ∨ ∀ env st it st', r.i a env st = .ok it st' → it.pr = false) {Q : VK} {σ : LSt} {H : Hp} {μ : List Addr} {env : Env} {st : Sto} (hE : EnvR X.K μ H env σ) (hS : StR X.K μ H st)
    (h : ((r.i a env st).bind fun it st => if small it.items.length = true then (lcGo r T' c e (env.wipe vs) it.src it.items [] st).bind fun ds st => new (.lst ds) st else .no).pst (fun d st' => Post X.K μ H d st' Q) (Z μ H)) :
    tLc (tI X.K Z r a) (gT X.K T') (tT X.K Z0 r c) (tE X.K Z0 r e) vs σ H Q := by
  refine ⟨μ, env, st, hE, hS, ?_⟩
  have h := pst_bind h
  cases ei : r.i a env st with
  | no => rw [ei] at h; exact h
  | ex x st1 => rw [ei] at h; exact h
  | ok it st1 =>
    rw [ei] at h
    have hpr : T'.isNm = false ∨ it.pr = false := hnp.imp id fun q => q env st it st1 ei
    intro μ1 J H1 L1 S1 hJ
    obtain ⟨hsm, h⟩ := pst_ite (show (if small it.items.length = true then (lcGo r T' c e (env.wipe vs) it.src it.items [] st1).bind fun ds st => new (.lst ds) st else .no).pst (fun d st' => Post X.K μ H d st' Q) (Z μ H) from h)
    have hsm := small_iff hsm
    have h := pst_bind h
    intro D hD
    have hEw : ∀ μ' H', Le μ1 H1 μ' H' → EnvR X.K μ' H' (env.wipe vs) (L2.wipe σ vs) := fun μ' H' L => ((hE.mono L1).mono L).wipe vs
    refine ⟨LcW X.K r T' c e (env.wipe vs) it μ1 H1 D (fun ds st => (new (.lst ds) st).pst (fun d st' => Post X.K μ H d st' Q) (Z μ H)) (Z μ H), ⟨it.items.length, μ1, st1, it.items, [], [], (Le.refl).out hD _, S1.new hD _, upd_same, S1.fresh hD, .nil, Nat.le_refl _, by simp, rfl, h⟩, ?_⟩
    rintro i m H2 ⟨μ2, st2, rest, acc, ws, L2', S2, hD2, nD, hacc, hal, er, em, h2⟩
    cases rest with
    | nil =>
      have hgo : (if srcOk st2 it.src = true then R.ok acc.reverse st2 else .no).pst (fun ds st => (new (.lst ds) st).pst (fun d st' => Post X.K μ H d st' Q) (Z μ H)) (Z μ H) := h2
      obtain ⟨hsrc, q⟩ := pst_ite hgo
      have hn : it.items[i]? = none := by
        rw [List.getElem?_eq_none_iff]
        exact List.drop_eq_nil_iff.mp er.symm
      refine .inl ⟨(hJ i μ2 H2 st2 L2'.le0 S2 hsrc).2 hn, ?_⟩
      have q : Post X.K μ H (.ref st2.length) (st2 ++ [.lst acc.reverse]) Q := q
      have L3 : Le μ H (μ2 ++ [D]) H2 := (L1.trans L2').add (by
        cases eh : H D with
        | none => rfl
        | some o =>
          exfalso
          by_cases hm : D ∈ μ
          · exact S1.fresh hD (L1.mem hm)
          · have := L1.kp D o eh hm
            rw [hD] at this
            cases this)
      refine q (μ2 ++ [D]) (.ref D) H2 L3 ⟨D, ?_, rfl⟩ (S2.add nD ?_)
      · rw [List.getElem?_append_right (by rw [S2.len]; exact Nat.le_refl _), S2.len, Nat.sub_self]
        rfl
      · exact ⟨ws, hD2, RepL.iff.mpr (Pr.imp hacc fun _ _ z => z.mono0 (fun l a e => by rw [List.getElem?_append_left (List.getElem?_eq_some_iff.mp e).1]; exact e) fun _ _ e _ => e)⟩
    | cons y ys =>
      have hy : it.items[i]? = some y := by
        have : (it.items.drop i)[0]? = some y := by rw [← er]; rfl
        simpa using this
      have hi : i < it.items.length := (List.getElem?_eq_some_iff.mp hy).1
      have hys : ys = it.items.drop (i + 1) := by
        have : (it.items.drop i).drop 1 = ys := by rw [← er]; rfl
        rw [← this, List.drop_drop]
      have hgo : (if srcOk st2 it.src = true then (match T.take T' y (env.wipe vs) with
        | some env' => (r.t c env' st2).val.bind fun b st => if b = true then (r.e e env' st).val.bind fun d st => lcGo r T' c e (env.wipe vs) it.src ys (d :: acc) st else lcGo r T' c e (env.wipe vs) it.src ys acc st
        | none => .no) else .no).pst (fun ds st => (new (.lst ds) st).pst (fun d st' => Post X.K μ H d st' Q) (Z μ H)) (Z μ H) := h2
      obtain ⟨hsrc, q⟩ := pst_ite hgo
      obtain ⟨g1, g2⟩ := (hJ i μ2 H2 st2 L2'.le0 S2 hsrc).1 y hy
      refine .inr ⟨g1, LcW X.K r T' c e (env.wipe vs) it μ1 H1 D (fun ds st => (new (.lst ds) st).pst (fun d st' => Post X.K μ H d st' Q) (Z μ H)) (Z μ H) (i + 1) ys.length, fun H' q => ⟨ys.length, by rw [em]; exact Nat.lt_succ_self _, q⟩, fun x H3 hx => ?_⟩
      have hI := g2 x H3 hx
      cases et : T.take T' y (env.wipe vs) with
      | none => rw [et] at q; exact q.elim
      | some env3 =>
        rw [et] at q
        have body : ∀ (μ3 : List Addr) (H3 : Hp), Le μ2 H2 μ3 H3 → StR X.K μ3 H3 st2 → ∀ σ' : LSt, EnvR X.K μ3 H3 env3 σ' →
            tT X.K Z0 r c σ' H3 fun b H3 => if b = true then tE X.K Z0 r e σ' H3 fun y H4 => ∃ acc, H4 D = some (.lst acc) ∧ acc.length < sizeLine ∧ LcW X.K r T' c e (env.wipe vs) it μ1 H1 D (fun ds st => (new (.lst ds) st).pst (fun d st' => Post X.K μ H d st' Q) (Z μ H)) (Z μ H) (i + 1) ys.length (upd H4 D (.lst (acc ++ [y])))
              else LcW X.K r T' c e (env.wipe vs) it μ1 H1 D (fun ds st => (new (.lst ds) st).pst (fun d st' => Post X.K μ H d st' Q) (Z μ H)) (Z μ H) (i + 1) ys.length H3 := by
          intro μ3 H3 L3 S3 σ' hE3
          have q := pst_bind_val (show ((r.t c env3 st2).val.bind fun b st => if b = true then (r.e e env3 st).val.bind fun d st => lcGo r T' c e (env.wipe vs) it.src ys (d :: acc) st else lcGo r T' c e (env.wipe vs) it.src ys acc st).pst _ _ from q)
          have keep : ∀ μ4 H4, Le μ3 H3 μ4 H4 → H4 D = some (.lst ws) ∧ D ∉ μ4 := fun μ4 H4 L4 => by
            have L24 := L3.trans L4
            refine ⟨L24.kp D _ hD2 nD, fun m => ?_⟩
            have := L24.nw D m nD
            rw [hD2] at this
            cases this
          refine ⟨μ3, env3, st2, hE3, S3, pst_mono (val_pst q) (fun b st4 q4 μ4 H4 L4 S4 => ?_) fun _ _ z => z⟩
          obtain ⟨hD4, nD4⟩ := keep μ4 H4 L4
          cases b with
          | false => exact ⟨μ4, st4, ys, acc, ws, (L2'.trans L3).trans L4, S4, hD4, nD4, Pr.imp hacc fun _ _ z => (z.mono L3).mono L4, by omega, hys, rfl, q4⟩
          | true =>
            have q5 := pst_bind_val (show ((r.e e env3 st4).val.bind fun d st => lcGo r T' c e (env.wipe vs) it.src ys (d :: acc) st).pst _ _ from q4)
            refine ⟨μ4, env3, st4, hE3.mono L4, S4, pst_mono (val_pst q5) (fun d st5 q6 μ5 v H5 L5 rd S5 => ?_) fun _ _ z => z⟩
            obtain ⟨hD5, nD5⟩ := keep μ5 H5 (L4.trans L5)
            have hlen := hacc.length
            rw [List.length_reverse] at hlen
            have L15 := ((L2'.trans L3).trans L4).trans L5
            refine ⟨ws, hD5, by omega, μ5, st5, ys, d :: acc, ws ++ [v], L15.out hD _, S5.out hD5 (fun z => z) nD5 _, upd_same, nD5, ?_, by simp; omega, hys, rfl, q6⟩
            have io := im_out hD5 (fun z => z) (.lst (ws ++ [v]))
            rw [List.reverse_cons]
            exact Pr.app (Pr.imp hacc fun _ _ z => (((z.mono L3).mono L4).mono L5).mono0 (fun _ _ z => z) io) (.cons (rd.mono0 (fun _ _ z => z) io) .nil)
        have wrap : ∀ {μ3 : List Addr} {H3 : Hp} {v : V}, Le μ2 H2 μ3 H3 → StR X.K μ3 H3 st2 → gT X.K T' v (L2.wipe σ vs) H3 (fun σ' H' => H' = H3 ∧ EnvR X.K μ3 H3 env3 σ') →
            gT X.K T' v (L2.wipe σ vs) H3 fun σ2 H2 => L2.wipe σ2 vs = L2.wipe σ vs ∧ tT X.K Z0 r c σ2 H2 fun b H3 => if b = true then tE X.K Z0 r e σ2 H3 fun y H4 => ∃ acc, H4 D = some (.lst acc) ∧ acc.length < sizeLine ∧ LcW X.K r T' c e (env.wipe vs) it μ1 H1 D (fun ds st => (new (.lst ds) st).pst (fun d st' => Post X.K μ H d st' Q) (Z μ H)) (Z μ H) (i + 1) ys.length (upd H4 D (.lst (acc ++ [y])))
              else LcW X.K r T' c e (env.wipe vs) it μ1 H1 D (fun ds st => (new (.lst ds) st).pst (fun d st' => Post X.K μ H d st' Q) (Z μ H)) (Z μ H) (i + 1) ys.length H3 := fun {μ3 H3 v} L3 S3 hg =>
          gT_mono T' v _ H3 _ _ (fun σ' H' ⟨⟨e1, e2⟩, sm⟩ => by
            subst e1
            exact ⟨wipe_same ⟨fun j hj => sm.1 j fun z => hj (hsl j z), sm.2⟩, body μ3 H' L3 S3 σ' e2⟩) (gT_same T' v _ H3 _ hg)
        cases hb : it.pr with
        | false =>
          rw [hb] at hI
          obtain ⟨rfl, rx⟩ := (show H3 = H2 ∧ Rep X.K μ2 H2 y x from hI)
          exact wrap .refl S2 (take_t T' y (env.wipe vs) env3 hw et _ x _ (hEw μ2 H3 L2') rx fun σ' hE3 => ⟨rfl, hE3⟩)
        | true =>
          rw [hb] at hI
          obtain ⟨T, v, w, d1, d2, rfl, rfl, hT, rfl, r1, r2⟩ := (show ∃ T v w d1 d2, y = .tup [d1, d2] ∧ x = .ref T ∧ H2 T = none ∧ H3 = upd H2 T (.tup [v, w]) ∧ Rep X.K μ2 H2 d1 v ∧ Rep X.K μ2 H2 d2 w from hI)
          have L3 := le_new S2 hT (.tup [v, w])
          have hnm : T'.isNm = false := hpr.elim id fun z => by rw [hb] at z; cases z
          exact wrap L3 (S2.new hT _) (take_pair hw hnm et ((hEw μ2 H2 L2').mono L3) (.inl (.inl upd_same)) (r1.mono L3) (r2.mono L3) fun σ' hE3 => ⟨rfl, hE3⟩)
end
end Ev
end

section
set_option Elab.async false
set_option linter.all false
set_option maxRecDepth 100000
set_option maxHeartbeats 4000000
/-! Snd15b: list comprehensions of two walks. -/
namespace Ev
open PySem PySem.Spec L2
theorem EnvR.mono0 {K : PySem.W.Frag} {μ μ' : List Addr} {H H' : Hp} {env : Env} {σ : LSt} (hp : ∀ (l : Nat) (a : Addr), μ[l]? = some a → μ'[l]? = some a) (hi : ∀ a o, H a = some o → Imm o → H' a = some o) (h : EnvR K μ H env σ) : EnvR K μ' H' env σ := ⟨h.len, fun i d e => by
  obtain ⟨v, h1, h2⟩ := h.at_ i d e
  exact ⟨v, h1, h2.mono0 hp hi⟩⟩
/-- the list that grows, and what it grows by -/
structure Grow (K : PySem.W.Frag) (μ1 : List Addr) (H1 : Hp) (A : Addr) (acc : List D) (μ' : List Addr) (st' : Sto) (vs : List V) (H' : Hp) : Prop where
  le : Le μ1 H1 μ' H'
  st : StR K μ' H' st'
  at_ : H' A = some (.lst vs)
  no : A ∉ μ'
  pr : Paired (Rep K μ' H') acc.reverse vs
theorem Grow.le2 {K : PySem.W.Frag} {μ1 μ2 μ3 : List Addr} {H1 H2 H3 : Hp} {A : Addr} {acc : List D} {st2 st3 : Sto} {ws : List V} (g : Grow K μ1 H1 A acc μ2 st2 ws H2) (L : Le μ2 H2 μ3 H3) (S : StR K μ3 H3 st3) : Grow K μ1 H1 A acc μ3 st3 ws H3 := by
  refine ⟨g.le.trans L, S, L.kp A _ g.at_ g.no, fun m => ?_, Pr.imp g.pr fun _ _ z => z.mono L⟩
  have := L.nw A m g.no
  rw [g.at_] at this
  cases this
theorem Grow.add {K : PySem.W.Frag} {μ1 μ2 : List Addr} {H1 H2 : Hp} {A : Addr} {acc : List D} {st2 : Sto} {ws : List V} {d : D} {v : V} (g : Grow K μ1 H1 A acc μ2 st2 ws H2) (r : Rep K μ2 H2 d v) (nA : H1 A = none) : Grow K μ1 H1 A (d :: acc) μ2 st2 (ws ++ [v]) (upd H2 A (.lst (ws ++ [v]))) := by
  refine ⟨?_, g.st.out g.at_ (fun z => z) g.no _, upd_same, g.no, ?_⟩
  · exact g.le.out nA _
  · have io := im_out g.at_ (fun z => z) (.lst (ws ++ [v]))
    rw [List.reverse_cons]
    exact Pr.app (Pr.imp g.pr fun _ _ z => z.mono0 (fun _ _ z => z) io) (.cons (r.mono0 (fun _ _ z => z) io) .nil)
theorem Grow.len {K : PySem.W.Frag} {μ1 μ2 : List Addr} {H1 H2 : Hp} {A : Addr} {acc : List D} {st2 : Sto} {ws : List V} (g : Grow K μ1 H1 A acc μ2 st2 ws H2) : ws.length = acc.length := by
  have := g.pr.length
  rw [List.length_reverse] at this
  exact this.symm
def Lc2O (K : PySem.W.Frag) (r : Ev) (T' : Ev.T) (b : E) (T2 : Ev.T) (c e : E) (env : Env) (it : Ev.It) (μ1 : List Addr) (H1 : Hp) (A : Addr) (B : List D → Sto → Prop) (Zc : Exn → Sto → Prop) (i m : Nat) (H' : Hp) : Prop :=
  ∃ μ' st' rest acc vs, Grow K μ1 H1 A acc μ' st' vs H' ∧ rest = it.items.drop i ∧ m = rest.length ∧ (lcOut r T' b T2 c e env it.src rest acc st').pst B Zc
def Lc2I (K : PySem.W.Frag) (r : Ev) (T' : Ev.T) (b : E) (T2 : Ev.T) (c e : E) (env env2 : Env) (it it2 : Ev.It) (ys : List D) (μ1 : List Addr) (H1 : Hp) (μ2 : List Addr) (H2 : Hp) (A : Addr) (B : List D → Sto → Prop) (Zc : Exn → Sto → Prop) (j k : Nat) (H' : Hp) : Prop :=
  ∃ μ' st' rest acc vs, Grow K μ1 H1 A acc μ' st' vs H' ∧ Le0 μ2 H2 μ' H' ∧ rest = it2.items.drop j ∧ k = rest.length ∧ (lcIn r T2 c e env2 it2.src rest acc st').pst (fun acc st => (lcOut r T' b T2 c e env it.src ys acc st).pst B Zc) Zc
theorem drop_at {α : Type} {xs : List α} {i : Nat} {y : α} {ys : List α} (h : y :: ys = xs.drop i) : xs[i]? = some y ∧ ys = xs.drop (i + 1) := by
  refine ⟨?_, ?_⟩
  · have : (xs.drop i)[0]? = some y := by rw [← h]; rfl
    simpa using this
  · have : (xs.drop i).drop 1 = ys := by rw [← h]; rfl
    rw [← this, List.drop_drop]
section
variable {X : Cx} {Z : ZT} {P : List Fn} {n : Nat} {r rc : Ev} {a b c e : E} {xa xb xc tg xe : Expr} {pos p p2 apos : Pos} {es : List Expr} {x : Str}
/-- one turn's item, taken by the target -/
theorem take_item {K : PySem.W.Frag} {T' : Ev.T} {it : Ev.It} {y : D} {env env3 : Env} {μ2 : List Addr} {H2 H3 : Hp} {st2 : Sto} {σ : LSt} {x : V} {Q : LSt → Hp → Prop} (hw : T'.wf = true) (hpr : T'.isNm = false ∨ it.pr = false) (et : T.take T' y env = some env3) (S2 : StR K μ2 H2 st2) (hE : EnvR K μ2 H2 env σ)
    (hI : ItemR K it.pr μ2 H2 H3 y x) (k : Le μ2 H2 μ2 H3 → StR K μ2 H3 st2 → ∀ σ' : LSt, EnvR K μ2 H3 env3 σ' → Same T'.slots σ σ' → Q σ' H3) : gT K T' x σ H3 Q := by
  have go : (Le μ2 H2 μ2 H3 ∧ StR K μ2 H3 st2) ∧ gT K T' x σ H3 fun σ' H' => H' = H3 ∧ EnvR K μ2 H3 env3 σ' := by
    cases hb : it.pr with
    | false =>
      rw [hb] at hI
      obtain ⟨rfl, rx⟩ := (show H3 = H2 ∧ Rep K μ2 H2 y x from hI)
      exact ⟨⟨.refl, S2⟩, take_t T' y env env3 hw et _ x _ hE rx fun σ' hE3 => ⟨rfl, hE3⟩⟩
    | true =>
      rw [hb] at hI
      obtain ⟨T, v, w, d1, d2, rfl, rfl, hT, rfl, r1, r2⟩ := (show ∃ T v w d1 d2, y = .tup [d1, d2] ∧ x = .ref T ∧ H2 T = none ∧ H3 = upd H2 T (.tup [v, w]) ∧ Rep K μ2 H2 d1 v ∧ Rep K μ2 H2 d2 w from hI)
      have L3 := le_new S2 hT (.tup [v, w])
      have hnm : T'.isNm = false := hpr.elim id fun z => by rw [hb] at z; cases z
      exact ⟨⟨L3, S2.new hT _⟩, take_pair hw hnm et (hE.mono L3) (.inl (.inl upd_same)) (r1.mono L3) (r2.mono L3) fun σ' hE3 => ⟨rfl, hE3⟩⟩
  obtain ⟨⟨L3, S3⟩, g⟩ := go
  exact gT_mono T' x σ H3 _ _ (fun σ' H' q => by
    obtain ⟨⟨e1, e2⟩, sm⟩ := q
    subst e1
    exact k L3 S3 σ' e2 sm) (gT_same T' x σ H3 _ g)
theorem lc2_base {T' T2 : Ev.T} {vs : List Nat} (hz : ZMono Z) (hw : T'.wf = true) (hw2 : T2.wf = true) (hsl : ∀ j ∈ T'.slots, j ∈ vs) (hnp : T'.isNm = false ∨ ∀ env st it st', r.i a env st = .ok it st' → it.pr = false) (hnp2 : T2.isNm = false ∨ ∀ env st it st', r.i b env st = .ok it st' → it.pr = false) {Q : VK} {σ : LSt} {H : Hp} {μ : List Addr} {env : Env} {st : Sto} (hE : EnvR X.K μ H env σ) (hS : StR X.K μ H st)
    (h : ((r.i a env st).bind fun it st => (lcOut r T' b T2 c e (env.wipe vs) it.src it.items [] st).bind fun ds st => new (.lst ds) st).pst (fun d st' => Post X.K μ H d st' Q) (Z μ H)) :
    tLc2 (tI X.K Z r a) (gT X.K T') tYes (tI X.K Z0 r b) (gT X.K T2) (tT X.K Z0 r c) (tE X.K Z0 r e) vs T2.slots σ H Q := by
  refine ⟨μ, env, st, hE, hS, ?_⟩
  have h := pst_bind h
  cases ei : r.i a env st with
  | no => rw [ei] at h; exact h
  | ex x st1 => rw [ei] at h; exact h
  | ok it st1 =>
    rw [ei] at h
    have hpr : T'.isNm = false ∨ it.pr = false := hnp.imp id fun q => q env st it st1 ei
    intro μ1 J H1 L1 S1 hJ
    have h := pst_bind (show ((lcOut r T' b T2 c e (env.wipe vs) it.src it.items [] st1).bind fun ds st => new (.lst ds) st).pst (fun d st' => Post X.K μ H d st' Q) (Z μ H) from h)
    intro D hD
    have hEw : ∀ μ' H', Le μ1 H1 μ' H' → EnvR X.K μ' H' (env.wipe vs) (L2.wipe σ vs) := fun μ' H' L => ((hE.mono L1).mono L).wipe vs
    let B : List Ev.D → Sto → Prop := fun ds st => (new (.lst ds) st).pst (fun d st' => Post X.K μ H d st' Q) (Z μ H)
    have g0 : Grow X.K μ1 H1 D [] μ1 st1 [] (upd H1 D (.lst [])) := ⟨(Le.refl).out hD _, S1.new hD _, upd_same, S1.fresh hD, .nil⟩
    refine ⟨Lc2O X.K r T' b T2 c e (env.wipe vs) it μ1 H1 D B (Z μ H), ⟨it.items.length, μ1, st1, it.items, [], [], g0, by simp, rfl, h⟩, ?_⟩
    rintro i m H2 ⟨μ2, st2, rest, acc, ws, g, er, em, h2⟩
    cases rest with
    | nil =>
      obtain ⟨hsrc, q⟩ := pst_ite (show (if srcOk st2 it.src = true then R.ok acc.reverse st2 else .no).pst B (Z μ H) from h2)
      have hn : it.items[i]? = none := by
        rw [List.getElem?_eq_none_iff]
        exact List.drop_eq_nil_iff.mp er.symm
      refine .inl ⟨(hJ i μ2 H2 st2 g.le.le0 g.st hsrc).2 hn, ?_⟩
      have q : Post X.K μ H (.ref st2.length) (st2 ++ [.lst acc.reverse]) Q := q
      have L3 : Le μ H (μ2 ++ [D]) H2 := (L1.trans g.le).add (by
        cases eh : H D with
        | none => rfl
        | some o =>
          exfalso
          by_cases hm : D ∈ μ
          · exact S1.fresh hD (L1.mem hm)
          · have := L1.kp D o eh hm
            rw [hD] at this
            cases this)
      refine q (μ2 ++ [D]) (.ref D) H2 L3 ⟨D, ?_, rfl⟩ (g.st.add g.no ?_)
      · rw [List.getElem?_append_right (by rw [g.st.len]; exact Nat.le_refl _), g.st.len, Nat.sub_self]
        rfl
      · exact ⟨ws, g.at_, RepL.iff.mpr (Pr.imp g.pr fun _ _ z => z.mono0 (fun l a e => by rw [List.getElem?_append_left (List.getElem?_eq_some_iff.mp e).1]; exact e) fun _ _ e _ => e)⟩
    | cons y ys =>
      obtain ⟨hy, hys⟩ := drop_at er
      have hgo : (if srcOk st2 it.src = true then (match T.take T' y (env.wipe vs) with
        | some env' => (r.i b env' st2).val.bind fun it2 st => (lcIn r T2 c e (env'.wipe T2.slots) it2.src it2.items acc st).bind fun acc st => lcOut r T' b T2 c e (env.wipe vs) it.src ys acc st
        | none => .no) else .no).pst B (Z μ H) := h2
      obtain ⟨hsrc, q⟩ := pst_ite hgo
      obtain ⟨g1, g2⟩ := (hJ i μ2 H2 st2 g.le.le0 g.st hsrc).1 y hy
      refine .inr ⟨g1, Lc2O X.K r T' b T2 c e (env.wipe vs) it μ1 H1 D B (Z μ H) (i + 1) ys.length, fun H' q => ⟨ys.length, by rw [em]; exact Nat.lt_succ_self _, q⟩, fun x H3 hx => ?_⟩
      cases et : T.take T' y (env.wipe vs) with
      | none => rw [et] at q; exact q.elim
      | some env3 =>
        rw [et] at q
        refine take_item (st2 := st2) hw hpr et g.st (hEw μ2 H2 g.le) (g2 x H3 hx) fun L3 S3 σ' hE3 sm => ?_
        refine ⟨wipe_same ⟨fun j hj => sm.1 j fun z => hj (hsl j z), sm.2⟩, ?_⟩
        show tI X.K Z0 r b σ' H3 _
        have q := pst_bind_val (show ((r.i b env3 st2).val.bind fun it2 st => (lcIn r T2 c e (env3.wipe T2.slots) it2.src it2.items acc st).bind fun acc st => lcOut r T' b T2 c e (env.wipe vs) it.src ys acc st).pst B (Z μ H) from q)
        obtain ⟨it2, st4, ei2, q⟩ := pst_val q
        have hpr2 : T2.isNm = false ∨ it2.pr = false := hnp2.imp id fun q => q env3 st2 it2 st4 ei2
        refine ⟨μ2, env3, st2, hE3, S3, ?_⟩
        rw [ei2]
        intro μ4 J1 H4 L4 S4 hJ1
        have q := pst_bind q
        have g4 : Grow X.K μ1 H1 D acc μ4 st4 ws H4 := (g.le2 L3 S3).le2 L4 S4
        have hE4 : ∀ μ' H', Le0 μ4 H4 μ' H' → EnvR X.K μ' H' (env3.wipe T2.slots) (L2.wipe σ' T2.slots) := fun μ' H' L => ((hE3.mono L4).mono0 L.pre L.im).wipe T2.slots
        refine ⟨Lc2I X.K r T' b T2 c e (env.wipe vs) (env3.wipe T2.slots) it it2 ys μ1 H1 μ4 H4 D B (Z μ H), ⟨it2.items.length, μ4, st4, it2.items, acc, ws, g4, Le.refl.le0, by simp, rfl, q⟩, ?_⟩
        rintro j k H5 ⟨μ5, st5, rest5, acc5, ws5, g5, L5, er5, ek5, h5⟩
        cases rest5 with
        | nil =>
          obtain ⟨hsrc5, q5⟩ := pst_ite (show (if srcOk st5 it2.src = true then R.ok acc5 st5 else .no).pst _ _ from h5)
          have hn : it2.items[j]? = none := by
            rw [List.getElem?_eq_none_iff]
            exact List.drop_eq_nil_iff.mp er5.symm
          exact .inl ⟨(hJ1 j μ5 H5 st5 L5 g5.st hsrc5).2 hn, μ5, st5, ys, acc5, ws5, g5, hys, rfl, q5⟩
        | cons z zs =>
          obtain ⟨hzz, hzs⟩ := drop_at er5
          have hgo : (if srcOk st5 it2.src = true then (match T.take T2 z (env3.wipe T2.slots) with
            | some env' => (r.t c env' st5).val.bind fun b st => if b = true then (r.e e env' st).val.bind fun d st => if Nat.blt acc5.length line = true then lcIn r T2 c e (env3.wipe T2.slots) it2.src zs (d :: acc5) st else .no else lcIn r T2 c e (env3.wipe T2.slots) it2.src zs acc5 st
            | none => .no) else .no).pst (fun acc st => (lcOut r T' b T2 c e (env.wipe vs) it.src ys acc st).pst B (Z μ H)) (Z μ H) := h5
          obtain ⟨hsrc5, q5⟩ := pst_ite hgo
          obtain ⟨k1, k2⟩ := (hJ1 j μ5 H5 st5 L5 g5.st hsrc5).1 z hzz
          refine .inr ⟨k1, Lc2I X.K r T' b T2 c e (env.wipe vs) (env3.wipe T2.slots) it it2 ys μ1 H1 μ4 H4 D B (Z μ H) (j + 1) zs.length, fun H' q => ⟨zs.length, by rw [ek5]; exact Nat.lt_succ_self _, q⟩, fun x5 H6 hx5 => ?_⟩
          cases et5 : T.take T2 z (env3.wipe T2.slots) with
          | none => rw [et5] at q5; exact q5.elim
          | some env6 =>
            rw [et5] at q5
            refine take_item (st2 := st5) hw2 hpr2 et5 g5.st (hE4 μ5 H5 L5) (k2 x5 H6 hx5) fun L6 S6 σ6 hE6 sm6 => ?_
            refine ⟨wipe_same ⟨fun j hj => sm6.1 j hj, sm6.2⟩, ?_⟩
            have q6 := pst_bind_val (show ((r.t c env6 st5).val.bind fun b st => if b = true then (r.e e env6 st).val.bind fun d st => if Nat.blt acc5.length line = true then lcIn r T2 c e (env3.wipe T2.slots) it2.src zs (d :: acc5) st else .no else lcIn r T2 c e (env3.wipe T2.slots) it2.src zs acc5 st).pst _ _ from q5)
            have g6 := g5.le2 L6 S6
            have L56 := L5.trans L6.le0
            refine ⟨μ5, env6, st5, hE6, S6, pst_mono (val_pst q6) (fun bb st7 q7 μ7 H7 L7 S7 => ?_) fun _ _ z => z⟩
            have g7 := g6.le2 L7 S7
            cases bb with
            | false => exact ⟨μ7, st7, zs, acc5, ws5, g7, L56.trans L7.le0, hzs, rfl, q7⟩
            | true =>
              have q8 := pst_bind_val (show ((r.e e env6 st7).val.bind fun d st => if Nat.blt acc5.length line = true then lcIn r T2 c e (env3.wipe T2.slots) it2.src zs (d :: acc5) st else .no).pst _ _ from q7)
              refine ⟨μ7, env6, st7, hE6.mono L7, S7, pst_mono (val_pst q8) (fun d st8 q9 μ8 v H8 L8 rd S8 => ?_) fun _ _ z => z⟩
              have g8 := g7.le2 L8 S8
              obtain ⟨hbl, q9⟩ := pst_ite (show (if Nat.blt acc5.length line = true then lcIn r T2 c e (env3.wipe T2.slots) it2.src zs (d :: acc5) st8 else .no).pst _ _ from q9)
              have hlt : acc5.length < sizeLine := by
                have := Nat.blt_eq.mp hbl
                rw [sizeLine_eq]
                exact this
              refine ⟨ws5, g8.at_, by rw [g8.len]; exact hlt, μ8, st8, zs, d :: acc5, ws5 ++ [v], g8.add rd hD, ?_, hzs, rfl, q9⟩
              have L48 := (L56.trans L7.le0).trans L8.le0
              exact ⟨L48.pre, fun a o h i => im_out g8.at_ (fun z => z) _ a o (L48.im a o h i) i⟩
end
end Ev
end

section
set_option Elab.async false
set_option linter.all false
set_option maxRecDepth 100000
set_option maxHeartbeats 2000000
/-! Snd16: comprehensions and calls, as expressions. -/
namespace Ev
open PySem PySem.Spec L2
section
variable {X : Cx} {Z : ZT} {P : List Fn} {n : Nat} {r rc : Ev} {a b c e : E} {xa xb xc tg xe : Expr} {pos p p2 apos : Pos} {es ifs : List Expr} {x : Str} {scope : Scope} {own : List (Str × Nat)}
theorem e_lc {T' : Ev.T} (hz : ZMono Z) (hc : X.calm = true) (hN : X.N.Nodup) (hw : T'.wf = true) (hsl : ∀ j ∈ T'.slots, j ∈ own.map (·.2)) (hnp : T'.isNm = false ∨ ∀ env st it st', r.i a env st = .ok it st' → it.pr = false)
    (hi : PI X tg xa (tI X.K Z r a)) (ok : BlkOk X.N X.env.scope scope own)
    (hg : ∀ (s : Shared) (H : Hp) (C : Addr) (cl : List (Str × Addr)) (fp : List Addr), PG (X.blk s H scope (compEnvC scope cl C X.env) fp) tg (gT X.K T'))
    (ht : ∀ (s : Shared) (H : Hp) (C : Addr) (cl : List (Str × Addr)) (fp : List Addr), PTs (X.blk s H scope (compEnvC scope cl C X.env) fp) ifs (tT X.K Z0 r c))
    (he : ∀ (s : Shared) (H : Hp) (C : Addr) (cl : List (Str × Addr)) (fp : List Addr), PE (X.blk s H scope (compEnvC scope cl C X.env) fp) xe (tE X.K Z0 r e)) (hs : ∀ x, foldedSetIterable xa X.env x = pure x) :
    PE X (.ListComp xe [⟨tg, xa, ifs, 0⟩] scope pos) (tE X.K Z (step P n r rc) (.lc (own.map (·.2)) T' a c e)) := by
  refine ⟨fun pins s σ H Q I ⟨μ, env, st, hE, hS, h⟩ => ?_⟩
  have h : (locked (lockOf a env st) (fun st => (r.i a env st).bind fun it st => if small it.items.length = true then (lcGo r T' c e (env.wipe (own.map (·.2))) it.src it.items [] st).bind fun ds st => new (.lst ds) st else .no) st).pst (fun d st' => Post X.K μ H d st' Q) (Z μ H) := h
  cases el : lockOf a env st with
  | none =>
    rw [el] at h
    exact (pe_lc hc hN hi ok hg ht he hs).run pins s σ H Q I (lc_base hz hw hsl hnp hE hS h)
  | some l =>
    rw [el] at h
    obtain ⟨kvs, hk⟩ := lockOf_ok el
    obtain ⟨d, u, ha, hu, mu, ni, lk⟩ := lock_ok hS hk
    refine (pe_lock (pe_lc hc hN hi ok hg ht he hs)).run pins s σ H Q I ⟨d, u, hu, mu, fun od => ?_⟩
    obtain ⟨S1, L1⟩ := lk od
    refine lc_base hz hw hsl hnp (hE.mono L1) S1 ?_
    obtain ⟨o, st1, e1, h⟩ := locked_some h
    have e1 : ((r.i a env (lock l st)).bind fun it st => if small it.items.length = true then (lcGo r T' c e (env.wipe (own.map (·.2))) it.src it.items [] st).bind fun ds st => new (.lst ds) st else .no) = .ok o st1 := e1
    rw [e1]
    have h : Post X.K μ H o (unlock l st1) Q := h
    refine fun μ2 w H2 L2 rv S2 => ?_
    obtain ⟨g1, g2, g3, g4, g5⟩ := unlock_ok hS ha hu hk L2 S2
    exact ⟨g1, h μ2 w _ g2 (g4 rv) g3⟩
theorem s_setLc {T' : Ev.T} {i : Nat} {y : Str} {py spos : Pos} (hz : ZMono Z) (hc : X.calm = true) (hN : X.N.Nodup) (hy : X.N[i]? = some y) (hyl : X.env.scope.names.lookup y = some .local) (hsw : swapsWith (.ListComp xe [⟨tg, xa, ifs, 0⟩] scope pos) (some (.Name y py)) spos.line X.env = pure true)
    (hw : T'.wf = true) (hsl : ∀ j ∈ T'.slots, j ∈ own.map (·.2)) (hnp : T'.isNm = false ∨ ∀ env st it st', r.i a env st = .ok it st' → it.pr = false)
    (hi : PI X tg xa (tI X.K Z r a)) (ok : BlkOk X.N X.env.scope scope own)
    (hg : ∀ (s : Shared) (H : Hp) (C : Addr) (cl : List (Str × Addr)) (fp : List Addr), PG (X.blk s H scope (compEnvC scope cl C X.env) fp) tg (gT X.K T'))
    (ht : ∀ (s : Shared) (H : Hp) (C : Addr) (cl : List (Str × Addr)) (fp : List Addr), PTs (X.blk s H scope (compEnvC scope cl C X.env) fp) ifs (tT X.K Z0 r c))
    (he : ∀ (s : Shared) (H : Hp) (C : Addr) (cl : List (Str × Addr)) (fp : List Addr), PE (X.blk s H scope (compEnvC scope cl C X.env) fp) xe (tE X.K Z0 r e)) (hs : ∀ x, foldedSetIterable xa X.env x = pure x) {r2 rc2 : Ev} {n2 : Nat} (hr2 : ∀ env st, r2.e (.lc (own.map (·.2)) T' a c e) env st = (step P n r rc).e (.lc (own.map (·.2)) T' a c e) env st) :
    PS X (.Assign [.Name y py] (.ListComp xe [⟨tg, xa, ifs, 0⟩] scope pos) spos) (tS X.K Z (step P n2 r2 rc2) (.asg (.nm i) (.lc (own.map (·.2)) T' a c e))) := by
  refine ⟨fun pins s σ H D I ⟨μ, env, st, hE, hS, h⟩ => ?_⟩
  have h : ((r2.e (.lc (own.map (·.2)) T' a c e) env st).bind fun d st => R.ok (Out.nx (env.put i d)) st).pst (fun o st' => PostS X.K μ H o st' D) (Z μ H) := h
  rw [hr2] at h
  have h : ((locked (lockOf a env st) (fun st => (r.i a env st).bind fun it st => if small it.items.length = true then (lcGo r T' c e (env.wipe (own.map (·.2))) it.src it.items [] st).bind fun ds st => new (.lst ds) st else .no) st).bind fun d st => R.ok (Out.nx (env.put i d)) st).pst (fun o st' => PostS X.K μ H o st' D) (Z μ H) := h
  cases el : lockOf a env st with
  | none =>
    rw [el] at h
    refine (ps_setLc hc hN hy hyl hsw hi ok hg ht he hs).run pins s σ H D I (lc_base (Q := fun x H1 => gName i x σ H1 D.nx) hz hw hsl hnp hE hS (pst_mono (pst_bind h) (fun d st' q => ?_) fun _ _ z => z))
    exact fun μ' v H' L rv S => (show PostS X.K μ H (.nx (env.put i d)) st' D from q) μ' _ H' L ((hE.mono L).put rv) S
  | some l =>
    rw [el] at h
    obtain ⟨kvs, hk⟩ := lockOf_ok el
    obtain ⟨d, u, ha, hu, mu, ni, lk⟩ := lock_ok hS hk
    refine (ps_lock (ps_setLc hc hN hy hyl hsw hi ok hg ht he hs)).run pins s σ H D I ⟨d, u, hu, mu, fun od => ?_⟩
    obtain ⟨S1, L1⟩ := lk od
    obtain ⟨o, st1, e1, h⟩ := locked_some (pst_bind h)
    have e1 : ((r.i a env (lock l st)).bind fun it st => if small it.items.length = true then (lcGo r T' c e (env.wipe (own.map (·.2))) it.src it.items [] st).bind fun ds st => new (.lst ds) st else .no) = .ok o st1 := e1
    refine lc_base (Q := fun x H1 => gName i x σ H1 fun σ' H' => H' d = some (.frz od u) ∧ D.nx σ' (upd H' d u)) hz hw hsl hnp (hE.mono L1) S1 ?_
    rw [e1]
    have h : PostS X.K μ H (.nx (env.put i o)) (unlock l st1) D := h
    refine fun μ2 w H2 L2 rv S2 => ?_
    obtain ⟨g1, g2, g3, g4, g5⟩ := unlock_ok hS ha hu hk L2 S2
    exact ⟨g1, h μ2 _ _ g2 (((hE.mono L1).mono L2 |> fun z => g5 z).put (g4 rv)) g3⟩
/-! ### calls -/
/-- what a def's call promises -/
def spF (K : PySem.W.Frag) (P : List Fn) (rc : Ev) (i : Nat) : Sp := fun vs H Q _ => (∃ f, nth P i = some f ∧ vs.length = f.ps) ∧ ∃ μ ds st, StR K μ H st ∧ RepL K μ H ds vs ∧ (callF P rc i ds st).pst (fun d st' => Post K μ H d st' Q) (Z0 μ H)
theorem e_call {i k : Nat} {f : Addr} {fd : FuncData} {ps : List Str} (F : FnOk X.prog X.w X.K X.mg X.base CX0 k f fd ps (spF X.K P rc i)) (hr : Room k X.A) (hg : Gl X x) (hm : X.mg x = some (.ref f)) (hk : PySem.W.keepIn X.K (.ref f) = true) (hb : Binds X.K fd ps [])
    {fn : Fn} (hfn : nth P i = some fn) (ha : PA X (xa :: es) (tEs X.K Z0 r a)) (hs : nsts (xa :: es) = true) (hd : (x == ("__debug__" : Str)) = false) : PE X (.Call (.Name x p) (xa :: es) [] pos) (tE X.K Z0 (step P n r rc) (.call i a)) := by
  obtain ⟨n1, n2⟩ := b_and hs
  refine impE (pe_call (dvs := []) (E := E0) F hr hg hm hk hb .nil pass0 ha hd (star_cons n1) (star_any n2)) fun σ H Q ⟨μ, env, st, hE, hS, h⟩ => ?_
  refine seqA z0_mono hE hS h fun ds st1 μ1 vs H1 L1 r1 S1 h1 => ?_
  show spF X.K P rc i (vs ++ []) H1 Q E0
  rw [List.append_nil]
  have hlen : vs.length = fn.ps := by
    have h1 : (callF P rc i ds st1).pst _ _ := h1
    unfold callF at h1
    rw [hfn] at h1
    rw [← (RepL.iff.mp r1).length]
    obtain ⟨g, _⟩ := pst_ite (show (if (ds.length == fn.ps) = true then _ else R.no).pst _ _ from h1)
    exact eq_of_beq g
  exact ⟨⟨fn, hfn, hlen⟩, μ1, ds, st1, S1, r1, pst_mono h1 (fun _ _ p => p.mono L1) fun _ _ z => z⟩
theorem e_call0 {i k : Nat} {f : Addr} {fd : FuncData} {ps : List Str} (F : FnOk X.prog X.w X.K X.mg X.base CX0 k f fd ps (spF X.K P rc i)) (hr : Room k X.A) (hg : Gl X x) (hm : X.mg x = some (.ref f)) (hk : PySem.W.keepIn X.K (.ref f) = true) (hb : Binds X.K fd ps [])
    {fn : Fn} (hfn : nth P i = some fn) (hnil : ∀ env st, r.es .nil env st = .ok [] st ∨ r.es .nil env st = .no) (hd : (x == ("__debug__" : Str)) = false) : PE X (.Call (.Name x p) [] [] pos) (tE X.K Z0 (step P n r rc) (.call i .nil)) := by
  refine impE (pe_call0 (dvs := []) (E := E0) F hr hg hm hk hb .nil pass0 hd) fun σ H Q ⟨μ, env, st, hE, hS, h⟩ => ?_
  have h : ((r.es .nil env st).bind fun ds st => callF P rc i ds st).pst (fun d st' => Post X.K μ H d st' Q) (Z0 μ H) := h
  rcases hnil env st with e | e
  · rw [e] at h
    have h : (callF P rc i [] st).pst (fun d st' => Post X.K μ H d st' Q) (Z0 μ H) := h
    have hlen : 0 = fn.ps := by
      have h1 := h
      unfold callF at h1
      rw [hfn] at h1
      obtain ⟨g, _⟩ := pst_ite (show (if (([] : List D).length == fn.ps) = true then _ else R.no).pst _ _ from h1)
      exact eq_of_beq g
    exact ⟨⟨fn, hfn, hlen⟩, μ, [], st, hS, rfl, h⟩
  · rw [e] at h
    exact h.elim
end
/-! ### what is left of a call -/
section
variable {K : PySem.W.Frag} {μ μ0 μ2 : List Addr} {H H0 H' : Hp} {st : Sto}
mutual
theorem low_rep {n : Nat} (hp : ∀ (l : Nat) (a : Addr), l < n → μ[l]? = some a → μ2[l]? = some a) : ∀ {d : D} {v : V}, D.low n d = true → Rep K μ H d v → Rep K μ2 H d v
  | .non, _, _, h => h
  | .bl _, _, _, h => h
  | .int _, _, _, h => h
  | .str _, _, _, h => h
  | .tup ds, _, hl, h => by
    obtain ⟨a, vs, its, e, ha, r⟩ := h
    exact ⟨a, vs, its, e, ha, low_repL hp (show D.lowL n ds = true from hl) r⟩
  | .ref l, _, hl, h => by
    obtain ⟨a, h1, e⟩ := h
    exact ⟨a, hp l a (of_decide_eq_true (show decide (l < n) = true from hl)) h1, e⟩
  | .fn _, _, _, h => h
  | .rol ns, _, _, h => h
theorem low_repL {n : Nat} (hp : ∀ (l : Nat) (a : Addr), l < n → μ[l]? = some a → μ2[l]? = some a) : ∀ {ds : List D} {vs : List V}, D.lowL n ds = true → RepL K μ H ds vs → RepL K μ2 H ds vs
  | [], _, _, h => h
  | d :: ds, _, hl, h => by
    obtain ⟨h1, h2⟩ := b_and (show (D.low n d && D.lowL n ds) = true from hl)
    obtain ⟨v, r, e, r1, r2⟩ := h
    exact ⟨v, r, e, low_rep hp h1 r1, low_repL hp h2 r2⟩
end
theorem low_kvr {n : Nat} (hp : ∀ (l : Nat) (a : Addr), l < n → μ[l]? = some a → μ2[l]? = some a) : ∀ {kvs : List (D × D)} {l : List (Key × V)}, pairBelow n kvs = true → KVR K μ H kvs l → KVR K μ2 H kvs l
  | _, _, _, .nil => .nil
  | p :: kvs, q :: l, h, .cons r t => by
    obtain ⟨h1, h2⟩ := b_and (show (D.low n p.1 && D.low n p.2 && pairBelow n kvs) = true from h)
    obtain ⟨h3, h4⟩ := b_and h1
    exact .cons ⟨r.1, low_rep hp h4 r.2⟩ (low_kvr hp h2 t)
theorem low_kvt {n : Nat} (hp : ∀ (l : Nat) (a : Addr), l < n → μ[l]? = some a → μ2[l]? = some a) : ∀ {kvs : List (D × D)} {l : TX}, pairBelow n kvs = true → KVT K μ H kvs l → KVT K μ2 H kvs l
  | _, _, _, .nil => .nil
  | p :: kvs, q :: l, h, .cons r t => by
    obtain ⟨h1, h2⟩ := b_and (show (D.low n p.1 && D.low n p.2 && pairBelow n kvs) = true from h)
    obtain ⟨h3, h4⟩ := b_and h1
    exact .cons ⟨r.1, r.2.1, low_rep hp h4 r.2.2⟩ (low_kvt hp h2 t)
theorem low_obj {n : Nat} (hp : ∀ (l : Nat) (a : Addr), l < n → μ[l]? = some a → μ2[l]? = some a) {a : Addr} {o : O} (h : O.low n o = true) (r : ObjR K μ H a o) : ObjR K μ2 H a o := by
  cases o with
  | lst ds =>
    obtain ⟨vs, g, r⟩ := r
    exact ⟨vs, g, low_repL hp h r⟩
  | dct kvs =>
    obtain ⟨l, g, r⟩ := r
    exact ⟨l, g, low_kvr hp h r⟩
  | lck kvs =>
    obtain ⟨ob, l, g, r⟩ := r
    exact ⟨ob, l, g, low_kvr hp h r⟩
  | dcT kvs =>
    obtain ⟨l, g, r⟩ := r
    exact ⟨l, g, low_kvt hp h r⟩
  | lcT kvs =>
    obtain ⟨ob, l, g, r⟩ := r
    exact ⟨ob, l, g, low_kvt hp h r⟩
  | set _ => exact r
  | ins _ _ => exact r
theorem below_get {n : Nat} : ∀ {st : Sto} {i : Nat} {o : O}, stBelow n st = true → st[i]? = some o → O.low n o = true
  | [], _, _, _, e => by simp at e
  | x :: r, 0, o, h, e => by
    simp at e
    subst e
    exact (b_and (show (O.low n x && stBelow n r) = true from h)).1
  | x :: r, i + 1, o, h, e => below_get (b_and (show (O.low n x && stBelow n r) = true from h)).2 (by simpa using e)
theorem fin_ok {n : Nat} {d d' : D} {st st' : Sto} {v : V} (h : fin n d st = .ok d' st') (L : Le μ0 H0 μ H) (hn : μ0.length = n) (S : StR K μ H st) (r : Rep K μ H d v) : ∃ μ2, Le μ0 H0 μ2 H ∧ Rep K μ2 H d' v ∧ StR K μ2 H st' := by
  have same : ∀ {d' : D} {st' : Sto}, R.ok d st = R.ok d' st' → ∃ μ2, Le μ0 H0 μ2 H ∧ Rep K μ2 H d' v ∧ StR K μ2 H st' := fun e => by
    cases e
    exact ⟨μ, L, r, S⟩
  have tk : ∀ (l : Nat) (a : Addr), l < n → μ[l]? = some a → (μ.take n)[l]? = some a := fun l a hl e => by
    rw [List.getElem?_take_of_lt hl]
    exact e
  have Lt : Le μ0 H0 (μ.take n) H := ⟨fun l a e => tk l a (by rw [← hn]; exact (List.getElem?_eq_some_iff.mp e).1) (L.pre l a e), L.kp, L.im, fun a m q => L.nw a (List.mem_of_mem_take m) q⟩
  have St : stBelow n (st.take n) = true → StR K (μ.take n) H (st.take n) := fun hb =>
    ⟨by rw [List.length_take, List.length_take, S.len], S.nd.sublist (List.take_sublist _ _), fun l a o e1 e2 => by
      have hl : l < n := by
        have := (List.getElem?_eq_some_iff.mp e1).1
        rw [List.length_take] at this
        omega
      have e1' := e1
      have e2' := e2
      rw [List.getElem?_take_of_lt hl] at e1' e2'
      exact low_obj tk (below_get hb e2) (S.ob l a o e1' e2')⟩
  unfold fin at h
  by_cases h1 : Nat.ble (slen st) n = true
  · rw [if_pos h1] at h
    exact same h
  · rw [if_neg h1] at h
    by_cases h2 : stBelow n (st.take n) = true
    · rw [if_pos h2] at h
      by_cases h3 : D.low n d = true
      · rw [if_pos h3] at h
        cases h
        exact ⟨μ.take n, Lt, low_rep tk h3 r, St h2⟩
      · rw [if_neg h3] at h
        cases d with
        | ref l =>
          have h : (match sget st l with | some o => if O.low n o = true then R.ok (D.ref n) (st.take n ++ [o]) else R.ok (D.ref l) st | none => R.no) = .ok d' st' := h
          cases e : sget st l with
          | none => rw [e] at h; cases h
          | some o =>
            rw [e] at h
            by_cases h4 : O.low n o = true
            · rw [show (match some o with | some o => if O.low n o = true then R.ok (D.ref n) (st.take n ++ [o]) else R.ok (D.ref l) st | none => R.no) = (if O.low n o = true then R.ok (D.ref n) (st.take n ++ [o]) else R.ok (D.ref l) st) from rfl, if_pos h4] at h
              cases h
              obtain ⟨a, ha, rfl⟩ := r
              have hln : n ≤ l := by
                have : ¬ l < n := fun z => h3 (decide_eq_true z)
                omega
              have hlt : l < μ.length := (List.getElem?_eq_some_iff.mp ha).1
              have hna : a ∉ μ.take n := fun m => by
                obtain ⟨i, hi⟩ := List.getElem?_of_mem m
                have hil : i < n := by
                  have := (List.getElem?_eq_some_iff.mp hi).1
                  rw [List.length_take] at this
                  omega
                rw [List.getElem?_take_of_lt hil] at hi
                have := nodup_ix' S.nd hi ha
                omega
              have hnone : H0 a = none := by
                refine L.nw a (List.mem_of_getElem? ha) fun m => ?_
                obtain ⟨i, hi⟩ := List.getElem?_of_mem m
                have hil : i < n := by rw [← hn]; exact (List.getElem?_eq_some_iff.mp hi).1
                have := nodup_ix' S.nd (L.pre i a hi) ha
                omega
              refine ⟨μ.take n ++ [a], Lt.add hnone, ⟨a, ?_, rfl⟩, (St h2).add hna ?_⟩
              · have : (μ.take n).length = n := by rw [List.length_take]; omega
                rw [List.getElem?_append_right (by omega), this, Nat.sub_self]
                rfl
              · refine low_obj (fun l' a' hl' e' => ?_) h4 (S.at_ ha e)
                rw [List.getElem?_append_left (by rw [List.length_take]; omega)]
                exact tk l' a' hl' e'
            · rw [show (match some o with | some o => if O.low n o = true then R.ok (D.ref n) (st.take n ++ [o]) else R.ok (D.ref l) st | none => R.no) = (if O.low n o = true then R.ok (D.ref n) (st.take n ++ [o]) else R.ok (D.ref l) st) from rfl, if_neg h4] at h
              exact same h
        | _ => exact same h
    · rw [if_neg h2] at h
      exact same h
mutual
theorem sh_rep {m k : Nat} {μ3 : List Addr} (hp : ∀ (l : Nat) (a : Addr), μ2[l]? = some a → μ3[if Nat.blt l m then l else l + k]? = some a) : ∀ {d : D} {v : V}, Rep K μ2 H d v → Rep K μ3 H (D.sh m k d) v
  | .non, _, h => h
  | .bl _, _, h => h
  | .int _, _, h => h
  | .str _, _, h => h
  | .tup ds, _, h => by
    obtain ⟨a, vs, its, e, ha, r⟩ := h
    exact ⟨a, vs, its, e, ha, sh_repL hp r⟩
  | .ref l, _, h => by
    obtain ⟨a, h1, e⟩ := h
    exact ⟨a, hp l a h1, e⟩
  | .fn _, _, h => h
  | .rol ns, _, h => h
theorem sh_repL {m k : Nat} {μ3 : List Addr} (hp : ∀ (l : Nat) (a : Addr), μ2[l]? = some a → μ3[if Nat.blt l m then l else l + k]? = some a) : ∀ {ds : List D} {vs : List V}, RepL K μ2 H ds vs → RepL K μ3 H (D.shL m k ds) vs
  | [], _, h => h
  | d :: ds, _, h => by
    obtain ⟨v, r, e, r1, r2⟩ := h
    exact ⟨v, r, e, sh_rep hp r1, sh_repL hp r2⟩
end
theorem sh_kD {m k : Nat} (q : Key) : D.sh m k (kD q) = kD q := by cases q <;> rfl
theorem sh_kvr {m k : Nat} {μ3 : List Addr} (hp : ∀ (l : Nat) (a : Addr), μ2[l]? = some a → μ3[if Nat.blt l m then l else l + k]? = some a) : ∀ {kvs : List (D × D)} {l : List (Key × V)}, KVR K μ2 H kvs l → KVR K μ3 H (kvs.map fun p => (D.sh m k p.1, D.sh m k p.2)) l
  | _, _, .nil => .nil
  | p :: kvs, q :: l, .cons r t => .cons ⟨by show D.sh m k p.1 = _; rw [r.1, sh_kD], sh_rep hp r.2⟩ (sh_kvr hp t)
theorem sh_ints {m k : Nat} : ∀ ks : List Int, D.shL m k (ks.map D.int) = ks.map D.int
  | [] => rfl
  | q :: ks => by
    show D.int q :: D.shL m k (ks.map D.int) = _
    rw [sh_ints ks]
    rfl
theorem sh_kvt {m k : Nat} {μ3 : List Addr} (hp : ∀ (l : Nat) (a : Addr), μ2[l]? = some a → μ3[if Nat.blt l m then l else l + k]? = some a) : ∀ {kvs : List (D × D)} {l : TX}, KVT K μ2 H kvs l → KVT K μ3 H (kvs.map fun p => (D.sh m k p.1, D.sh m k p.2)) l
  | _, _, .nil => .nil
  | p :: kvs, q :: l, .cons r t => .cons ⟨by show D.sh m k p.1 = _; rw [r.1]; show D.tup (D.shL m k _) = _; rw [sh_ints], r.2.1, sh_rep hp r.2.2⟩ (sh_kvt hp t)
theorem sh_obj {m k : Nat} {μ3 : List Addr} (hp : ∀ (l : Nat) (a : Addr), μ2[l]? = some a → μ3[if Nat.blt l m then l else l + k]? = some a) {a : Addr} {o : O} (r : ObjR K μ2 H a o) : ObjR K μ3 H a (O.sh m k o) := by
  cases o with
  | lst ds =>
    obtain ⟨vs, g, r⟩ := r
    exact ⟨vs, g, sh_repL hp r⟩
  | dct kvs =>
    obtain ⟨l, g, r⟩ := r
    exact ⟨l, g, sh_kvr hp r⟩
  | lck kvs =>
    obtain ⟨ob, l, g, r⟩ := r
    exact ⟨ob, l, g, sh_kvr hp r⟩
  | dcT kvs =>
    obtain ⟨l, g, r⟩ := r
    exact ⟨l, g, sh_kvt hp r⟩
  | lcT kvs =>
    obtain ⟨ob, l, g, r⟩ := r
    exact ⟨ob, l, g, sh_kvt hp r⟩
  | set _ => exact r.elim
  | ins _ _ => exact r.elim
/-- a call over the store's beginning, seen from the caller's -/
theorem lay_ok {m : Nat} {d d' : D} {st1 st' : Sto} {v : V} (h : lay m d st1 st = .ok d' st') (hm : m ≤ st.length) (L : Le (μ.take m) H μ2 H') (S : StR K μ H st) (S2 : StR K μ2 H' st1) (r : Rep K μ2 H' d v) : ∃ μ3, Le μ H μ3 H' ∧ Rep K μ3 H' d' v ∧ StR K μ3 H' st' := by
  have hml : m ≤ μ.length := by rw [S.len]; exact hm
  have htl : (μ.take m).length = m := by rw [List.length_take]; omega
  have hpre : μ2.take m = μ.take m := by
    refine List.ext_getElem? fun i => ?_
    by_cases hi : i < m
    · rw [List.getElem?_take_of_lt hi]
      cases e : (μ.take m)[i]? with
      | none =>
        have := List.getElem?_eq_none_iff.mp e
        omega
      | some a => exact L.pre i a e
    · rw [List.getElem?_eq_none (by rw [List.length_take]; omega), List.getElem?_eq_none (by omega)]
  have hm2 : m ≤ μ2.length := by
    have := congrArg List.length hpre
    rw [List.length_take, htl] at this
    omega
  have hm1 : m ≤ st1.length := by rw [← S2.len]; exact hm2
  have tk_in : ∀ a, a ∈ μ.take m → a ∈ μ := fun a h => List.mem_of_mem_take h
  have dr_no : ∀ a, a ∈ μ.drop m → a ∉ μ.take m := fun a h1 h2 => by
    obtain ⟨i, hi⟩ := List.getElem?_of_mem h2
    obtain ⟨j, hj⟩ := List.getElem?_of_mem h1
    have hil : i < m := by
      have := (List.getElem?_eq_some_iff.mp hi).1
      omega
    rw [List.getElem?_take_of_lt hil] at hi
    rw [List.getElem?_drop] at hj
    have := nodup_ix' S.nd hi hj
    omega
  have nw2 : ∀ a, a ∈ μ2 → a ∉ μ.take m → a ∉ μ := fun a h1 h2 h3 => by
    have e1 := L.nw a h1 h2
    obtain ⟨ho, e2⟩ := S.isHo h3
    rw [e1] at e2
    cases e2
  have dr2 : ∀ a, a ∈ μ2.drop m → a ∉ μ.take m := fun a h1 h2 => by
    obtain ⟨i, hi⟩ := List.getElem?_of_mem h2
    obtain ⟨j, hj⟩ := List.getElem?_of_mem h1
    have hil : i < m := by
      have := (List.getElem?_eq_some_iff.mp hi).1
      omega
    have hi2 := L.pre i a hi
    rw [List.getElem?_drop] at hj
    have := nodup_ix' S2.nd hi2 hj
    omega
  -- the whole map
  have Lw : Le μ H (μ ++ μ2.drop m) H' := ⟨fun l a e => by rw [List.getElem?_append_left (List.getElem?_eq_some_iff.mp e).1]; exact e, fun a o e n => L.kp a o e fun q => n (tk_in a q), L.im, fun a q n => by
    have q := (List.mem_append.mp q).resolve_left n
    exact L.nw a (List.mem_of_mem_drop q) (dr2 a q)⟩
  have hdl : (st.drop m).length = μ.length - m := by rw [List.length_drop, S.len]
  have hp : ∀ (l : Nat) (a : Addr), μ2[l]? = some a → (μ ++ μ2.drop m)[if Nat.blt l m then l else l + (st.drop m).length]? = some a := fun l a e => by
    by_cases hl : l < m
    · rw [if_pos (by simpa [Nat.blt_eq] using hl), List.getElem?_append_left (by omega)]
      have : (μ.take m)[l]? = some a := by rw [← hpre, List.getElem?_take_of_lt hl]; exact e
      rwa [List.getElem?_take_of_lt hl] at this
    · rw [if_neg (by simpa [Nat.blt_eq] using hl), hdl, List.getElem?_append_right (by omega), List.getElem?_drop]
      rw [show m + (l + (μ.length - m) - μ.length) = l by omega]
      exact e
  have pre_l : ∀ (l : Nat) (a : Addr), l < m → μ2[l]? = some a → μ[l]? = some a := fun l a hl e => by
    have : (μ.take m)[l]? = some a := by rw [← hpre, List.getElem?_take_of_lt hl]; exact e
    rwa [List.getElem?_take_of_lt hl] at this
  -- what stood behind the beginning
  have Sd : ∀ (l : Nat) (a : Addr) (o : O), m ≤ l → μ[l]? = some a → st[l]? = some o → ObjR K μ H' a o := fun l a o hl e1 e2 => by
    have q := S.ob l a o e1 e2
    obtain ⟨ho, e⟩ := q.isHo
    have hna : a ∉ μ.take m := dr_no a (by
      have : (μ.drop m)[l - m]? = some a := by rw [List.getElem?_drop, show m + (l - m) = l by omega]; exact e1
      exact List.mem_of_getElem? this)
    have L0 : Le μ H μ H' := ⟨fun _ _ e => e, fun a o e n => L.kp a o e fun q => n (tk_in a q), L.im, fun a q n => absurd q n⟩
    exact q.mono L0 (by rw [L.kp a ho e hna, e])
  have gen : ∀ {k : Nat}, k = (st.drop m).length → R.ok (D.sh m k d) ((st1.take m).map (O.sh m k) ++ st.drop m ++ (st1.drop m).map (O.sh m k)) = R.ok d' st' → ∃ μ3, Le μ H μ3 H' ∧ Rep K μ3 H' d' v ∧ StR K μ3 H' st' := fun hk e => by
    subst hk
    cases e
    refine ⟨μ ++ μ2.drop m, Lw, sh_rep hp r, ⟨?_, ?_, fun l a x e1 e2 => ?_⟩⟩
    · rw [List.length_append, List.length_append, List.length_append, List.length_map, List.length_map, List.length_drop, List.length_drop, List.length_drop, List.length_take, S.len, S2.len]
      omega
    · rw [List.nodup_append]
      exact ⟨S.nd, S2.nd.sublist (List.drop_sublist _ _), fun a ha b hb z => nw2 b (List.mem_of_mem_drop hb) (dr2 b hb) (z ▸ ha)⟩
    · have hlt : ((st1.take m).map (O.sh m (st.drop m).length)).length = m := by rw [List.length_map, List.length_take]; omega
      by_cases h1 : l < m
      · rw [List.getElem?_append_left (by rw [List.length_append]; omega), List.getElem?_append_left (by omega), List.getElem?_map, List.getElem?_take_of_lt h1] at e2
        rw [List.getElem?_append_left (by omega)] at e1
        cases e3 : st1[l]? with
        | none => rw [e3] at e2; cases e2
        | some y =>
          rw [e3] at e2
          cases e2
          refine sh_obj hp (S2.ob l a y (L.pre l a ?_) e3)
          rw [List.getElem?_take_of_lt h1]
          exact e1
      · by_cases h2 : l < μ.length
        · rw [List.getElem?_append_left (by rw [List.length_append]; omega), List.getElem?_append_right (by omega), hlt, List.getElem?_drop, show m + (l - m) = l by omega] at e2
          rw [List.getElem?_append_left h2] at e1
          exact (Sd l a x (by omega) e1 e2).mono0 (fun l a e => by rw [List.getElem?_append_left (List.getElem?_eq_some_iff.mp e).1]; exact e) (fun _ _ e _ => e) rfl
        · have hq : (((st1.take m).map (O.sh m (st.drop m).length)) ++ st.drop m).length = μ.length := by rw [List.length_append]; omega
          rw [List.getElem?_append_right (by omega), hq, List.getElem?_map, List.getElem?_drop] at e2
          rw [List.getElem?_append_right (by omega), List.getElem?_drop] at e1
          cases e3 : st1[m + (l - μ.length)]? with
          | none => rw [e3] at e2; cases e2
          | some y =>
            rw [e3] at e2
            cases e2
            exact sh_obj hp (S2.ob _ a y e1 e3)
  unfold lay at h
  cases ed : st.drop m with
  | nil =>
    rw [ed] at h
    cases h
    have hlm : st.length = m := by
      have := congrArg List.length ed
      rw [List.length_drop] at this
      simp at this
      omega
    have hmu : μ.take m = μ := List.take_of_length_le (by rw [S.len]; omega)
    rw [hmu] at L
    exact ⟨μ2, L, r, S2⟩
  | cons p q =>
    rw [ed] at h
    cases ed1 : st1.drop m with
    | nil =>
      have h : (match st1.drop m with
        | [] => R.ok d (st1 ++ p :: q)
        | o :: r => if r.isEmpty && O.low m o && stBelow m (st1.take m) && D.isAt m d then R.ok (.ref (slen st)) (st1.take m ++ (p :: q) ++ [o])
          else R.ok (D.sh m (slen (p :: q)) d) ((st1.take m).map (O.sh m (slen (p :: q))) ++ (p :: q) ++ (o :: r).map (O.sh m (slen (p :: q))))) = .ok d' st' := h
      rw [ed1] at h
      cases h
      have hl1 : st1.length = m := by
        have := congrArg List.length ed1
        rw [List.length_drop] at this
        simp at this
        omega
      have hmu2 : μ2 = μ.take m := by
        rw [← hpre, List.take_of_length_le]
        rw [S2.len]; omega
      have tk : ∀ (l : Nat) (a : Addr), μ2[l]? = some a → μ[l]? = some a := fun l a e => pre_l l a (by
        have := (List.getElem?_eq_some_iff.mp e).1
        rw [S2.len] at this; omega) e
      refine ⟨μ, ⟨fun _ _ e => e, fun a o e n => L.kp a o e fun q => n (tk_in a q), L.im, fun a q n => absurd q n⟩, r.mono0 tk (fun _ _ e _ => e), ⟨?_, S.nd, fun l a x e1 e2 => ?_⟩⟩
      · rw [List.length_append, hl1, ← ed, List.length_drop, S.len]; omega
      · by_cases h1 : l < m
        · rw [List.getElem?_append_left (by omega)] at e2
          refine (S2.ob l a x (L.pre l a ?_) e2).mono0 tk (fun _ _ e _ => e) rfl
          rw [List.getElem?_take_of_lt h1]
          exact e1
        · rw [List.getElem?_append_right (by omega), ← ed, List.getElem?_drop, hl1, show m + (l - m) = l by omega] at e2
          exact Sd l a x (by omega) e1 e2
    | cons o rs =>
      have h : (match st1.drop m with
        | [] => R.ok d (st1 ++ p :: q)
        | o :: r => if r.isEmpty && O.low m o && stBelow m (st1.take m) && D.isAt m d then R.ok (.ref (slen st)) (st1.take m ++ (p :: q) ++ [o])
          else R.ok (D.sh m (slen (p :: q)) d) ((st1.take m).map (O.sh m (slen (p :: q))) ++ (p :: q) ++ (o :: r).map (O.sh m (slen (p :: q))))) = .ok d' st' := h
      rw [ed1] at h
      have h : (if (rs.isEmpty && O.low m o && stBelow m (st1.take m) && D.isAt m d) = true then R.ok (.ref (slen st)) (st1.take m ++ (p :: q) ++ [o])
          else R.ok (D.sh m (slen (p :: q)) d) ((st1.take m).map (O.sh m (slen (p :: q))) ++ (p :: q) ++ (o :: rs).map (O.sh m (slen (p :: q))))) = .ok d' st' := h
      by_cases hc : (rs.isEmpty && O.low m o && stBelow m (st1.take m) && D.isAt m d) = true
      · rw [if_pos hc] at h
        cases h
        obtain ⟨hc, hc4⟩ := b_and hc
        obtain ⟨hc, hc3⟩ := b_and hc
        obtain ⟨hc1, hc2⟩ := b_and hc
        have hrs : rs = [] := List.isEmpty_iff.mp hc1
        subst hrs
        cases d with
        | ref l =>
          have hl : l = m := eq_of_beq hc4
          subst hl
          obtain ⟨a, ha, rfl⟩ := r
          have hst1 : st1[l]? = some o := by
            have := congrArg (·[0]?) ed1
            simpa [List.getElem?_drop] using this
          have hd2 : μ2.drop l = [a] := by
            have e0 : (μ2.drop l)[0]? = some a := by rw [List.getElem?_drop]; simpa using ha
            have e1 : (μ2.drop l).length = 1 := by
              have := congrArg List.length ed1
              rw [List.length_drop] at this ⊢
              simp at this
              rw [S2.len]; omega
            cases e2 : μ2.drop l with
            | nil => rw [e2] at e1; simp at e1
            | cons b q =>
              rw [e2] at e0 e1
              simp at e0 e1
              rw [e0, e1]
          have tkL : ∀ (i : Nat) (b : Addr), i < l → μ2[i]? = some b → (μ ++ [a])[i]? = some b := fun i b hi e => by
            rw [List.getElem?_append_left (by omega)]
            exact pre_l i b hi e
          refine ⟨μ ++ [a], by rw [hd2] at Lw; exact Lw, ⟨a, ?_, rfl⟩, ⟨?_, ?_, fun i b x e1 e2 => ?_⟩⟩
          · rw [slen_eq, ← S.len, List.getElem?_append_right (Nat.le_refl _), Nat.sub_self]
            rfl
          · rw [← ed]
            rw [List.length_append, List.length_append, List.length_append, List.length_take, List.length_drop, S.len]
            simp
            omega
          · rw [List.nodup_append]
            refine ⟨S.nd, by simp, fun b hb c hc z => ?_⟩
            have : c = a := by simpa using hc
            have ha2 : a ∈ μ2.drop l := by rw [hd2]; simp
            exact nw2 a (List.mem_of_mem_drop ha2) (dr2 a ha2) (this ▸ z ▸ hb)
          · have hlt : (st1.take l).length = l := by rw [List.length_take]; omega
            rw [← ed] at e2
            by_cases h1 : i < l
            · rw [List.getElem?_append_left (by rw [List.length_append]; omega), List.getElem?_append_left (by omega)] at e2
              have e2' := e2
              rw [List.getElem?_take_of_lt h1] at e2'
              rw [List.getElem?_append_left (by omega)] at e1
              refine low_obj tkL (below_get hc3 e2) (S2.ob i b x (L.pre i b ?_) e2')
              rw [List.getElem?_take_of_lt h1]
              exact e1
            · by_cases h2 : i < μ.length
              · rw [List.getElem?_append_left (by rw [List.length_append]; omega), List.getElem?_append_right (by omega), hlt, List.getElem?_drop, show l + (i - l) = i by omega] at e2
                rw [List.getElem?_append_left h2] at e1
                exact (Sd i b x (by omega) e1 e2).mono0 (fun l a e => by rw [List.getElem?_append_left (List.getElem?_eq_some_iff.mp e).1]; exact e) (fun _ _ e _ => e) rfl
              · have hi : i = μ.length := by
                  have := (List.getElem?_eq_some_iff.mp e1).1
                  rw [List.length_append] at this
                  simp at this
                  omega
                have hq : (st1.take l ++ st.drop l).length = μ.length := by rw [List.length_append]; omega
                rw [List.getElem?_append_right (by omega), hq, hi, Nat.sub_self] at e2
                rw [hi, List.getElem?_append_right (by omega), Nat.sub_self] at e1
                simp at e1 e2
                subst e1 e2
                exact low_obj tkL hc2 (S2.ob l _ _ ha hst1)
        | _ => cases hc4
      · rw [if_neg hc] at h
        rw [← ed, ← ed1, slen_eq] at h
        exact gen rfl h
end
end Ev
end

section
set_option Elab.async false
set_option linter.all false
set_option maxRecDepth 100000
set_option maxHeartbeats 2000000
/-! Snd16b: comprehensions of two walks, as expressions. -/
namespace Ev
open PySem PySem.Spec L2
section
variable {X : Cx} {Z : ZT} {P : List Fn} {n : Nat} {r rc : Ev} {a b c e : E} {xa xb xc tg tg1 xe : Expr} {pos p p2 apos : Pos} {es ifs : List Expr} {x : Str} {scope : Scope} {own : List (Str × Nat)}
theorem e_lc2 {T' T2 : Ev.T} (hz : ZMono Z) (hc : X.calm = true) (hN : X.N.Nodup) (hw : T'.wf = true) (hw2 : T2.wf = true) (hsl : ∀ j ∈ T'.slots, j ∈ own.map (·.2)) (hsl2 : ∀ j ∈ T2.slots, j ∈ own.map (·.2)) (hnp : T'.isNm = false ∨ ∀ env st it st', r.i a env st = .ok it st' → it.pr = false) (hnp2 : T2.isNm = false ∨ ∀ env st it st', r.i b env st = .ok it st' → it.pr = false)
    (hi : PI X tg xa (tI X.K Z r a)) (ok : BlkOk X.N X.env.scope scope own)
    (hg : ∀ (s : Shared) (H : Hp) (C : Addr) (cl : List (Str × Addr)) (fp : List Addr), PG (X.blk s H scope (compEnvC scope cl C X.env) fp) tg (gT X.K T'))
    (hi1 : ∀ (s : Shared) (H : Hp) (C : Addr) (cl : List (Str × Addr)) (fp : List Addr), PI (X.blk s H scope (compEnvC scope cl C X.env) fp) tg1 xb (tI X.K Z0 r b))
    (hg1 : ∀ (s : Shared) (H : Hp) (C : Addr) (cl : List (Str × Addr)) (fp : List Addr), PG (X.blk s H scope (compEnvC scope cl C X.env) fp) tg1 (gT X.K T2))
    (ht1 : ∀ (s : Shared) (H : Hp) (C : Addr) (cl : List (Str × Addr)) (fp : List Addr), PTs (X.blk s H scope (compEnvC scope cl C X.env) fp) ifs (tT X.K Z0 r c))
    (he : ∀ (s : Shared) (H : Hp) (C : Addr) (cl : List (Str × Addr)) (fp : List Addr), PE (X.blk s H scope (compEnvC scope cl C X.env) fp) xe (tE X.K Z0 r e)) (hs : ∀ x, foldedSetIterable xa X.env x = pure x) (hs1 : ∀ env x, foldedSetIterable xb env x = pure x) :
    PE X (.ListComp xe [⟨tg, xa, [], 0⟩, ⟨tg1, xb, ifs, 0⟩] scope pos) (tE X.K Z (step P n r rc) (.lc2 (own.map (·.2)) T' a T2 b c e)) := by
  refine ⟨fun pins s σ H Q I ⟨μ, env, st, hE, hS, h⟩ => ?_⟩
  exact (pe_lc2 hc hN hi ok hsl2 hg (fun _ _ _ _ _ => pts_nil) hi1 hg1 ht1 he hs hs1).run pins s σ H Q I (lc2_base hz hw hw2 hsl hnp hnp2 hE hS h)
end
end Ev
end

section
set_option Elab.async false
set_option linter.all false
set_option maxRecDepth 100000
set_option maxHeartbeats 2000000
/-! Snd16c: pairs of a dict, list(d.values()), max(.., default=..), stores of two places at once. -/
namespace Ev
open PySem PySem.Spec L2
theorem pr_map2 {α β γ δ : Type} {F : α → β → Prop} {G : γ → δ → Prop} {f : α → γ} {g : β → δ} : ∀ {xs : List α} {ys : List β}, Paired F xs ys → (∀ a b, F a b → G (f a) (g b)) → Paired G (xs.map f) (ys.map g)
  | _, _, .nil, _ => .nil
  | _, _, .cons r t, k => .cons (k _ _ r) (pr_map2 t k)
/-! ### max(xs, default=d) -/
def vMxd (K : PySem.W.Frag) (b : Blt) : List V → List V → Hp → VK → Prop := fun xs zs H Q => ∃ μ x z dx dz st d st', xs = [x] ∧ zs = [z] ∧ StR K μ H st ∧ Rep K μ H dx x ∧ Rep K μ H dz z ∧ mxdV b dx dz st = .ok d st' ∧ Post K μ H d st' Q
section
variable {X : Cx}
theorem cr_maxD (hc : X.calm = true) (hu : X.A.units + 200 < cLine) : CallRK X (.builtin "max") [Str.ofString "default"] (vMxd X.K .max) := by
  intro pins s σ H xs zs us ws Q I r rz hh
  obtain ⟨μ, x, z, dx, dz, st, d, st', rfl, rfl, S, r1, r2, h, p⟩ := hh
  obtain ⟨uz, rfl, ez⟩ := vals1 rz
  have h : (match rowOf dx st with | some xs => (match xs with | [] => R.ok dz st | _ :: _ => bltI .max xs st) | none => .no) = .ok d st' := h
  cases e : rowOf dx st with
  | none => rw [e] at h; cases h
  | some ys =>
    rw [e] at h
    obtain ⟨a, vs, rfl, hv, hk⟩ := row_of S r1 e
    rw [Vals.ref1 r]
    cases ys with
    | nil =>
      cases (show R.ok dz st = .ok d st' from h)
      cases hv
      rcases hk with ⟨l, rfl, ha⟩ | ⟨rfl, its, ha⟩
      · obtain ⟨its, rv, hl, _⟩ := I.list (.inl (.inl ha))
        cases rv
        exact PySem.W.max_list_default (I.ok.hd hc) hl.isList (xs := []) (as := []) .nil ⟨(fun x hx => nomatch hx), (fun x hx => nomatch hx)⟩ (by show X.A.units + 1 + 0 < cLine; omega) (fun _ h' tk k => ⟨z, H, I.kept k, ez, p.here S r2⟩) fun y ys _ _ _ _ _ q => by cases q
      · obtain ⟨its, rv, hl, _⟩ := I.tuple (.inl (.inr ⟨_, ha⟩))
        cases rv
        exact PySem.W.max_tuple_default (I.ok.hd hc) hl (xs := []) (as := []) .nil ⟨(fun x hx => nomatch hx), (fun x hx => nomatch hx)⟩ (by show X.A.units + 1 + 0 < cLine; omega) (fun _ h' tk k => ⟨z, H, I.kept k, ez, p.here S r2⟩) fun y ys _ _ _ _ _ q => by cases q
    | cons y ys =>
      have h : bltI .max (y :: ys) st = .ok d st' := h
      obtain ⟨hun, h⟩ := ite_ok (show (if uniform (y :: ys) = true then okO st (least (fun a b => D.lt b a) y ys) else (R.no : R D)) = .ok d st' from h)
      cases e2 : least (fun a b => D.lt b a) y ys with
      | none => rw [e2] at h; cases h
      | some m =>
        rw [e2] at h
        cases h
        obtain ⟨hm, em⟩ := least_max hun ys y d (by simp) (fun x hx => by simp [hx]) e2
        have hd := (plL_plain 60 _ (uni_pl hun)).2
        rcases hk with ⟨l, rfl, ha⟩ | ⟨rfl, its, ha⟩
        · obtain ⟨its, rv, hl, _⟩ := I.list (.inl (.inl ha))
          obtain ⟨as, hr⟩ := repL_reads I 60 _ vs its (uni_pl hun) (RepL.iff.mpr hv) rv
          refine PySem.W.max_list_default (I.ok.hd hc) hl.isList (xs := toP y :: toPL ys) (by simpa [toPL] using hr) (uni_all hun) (by have : PyData.depthAll (toP y :: toPL ys) ≤ 60 := hd; omega) (fun q => by cases q) fun y' ys' i v h' tk bs q hi rdv k => ?_
          cases q
          rw [em] at rdv
          obtain ⟨y2, q1, q2⟩ := pick_rep I (uni_pl hun) hv rv hm (by simpa using hi) k rdv
          exact ⟨y2, H, I.kept k, q2, p.here S q1⟩
        · obtain ⟨its, rv, hl, _⟩ := I.tuple (.inl (.inr ⟨_, ha⟩))
          obtain ⟨as, hr⟩ := repL_reads I 60 _ vs its (uni_pl hun) (RepL.iff.mpr hv) rv
          refine PySem.W.max_tuple_default (I.ok.hd hc) hl (xs := toP y :: toPL ys) (by simpa [toPL] using hr) (uni_all hun) (by have : PyData.depthAll (toP y :: toPL ys) ≤ 60 := hd; omega) (fun q => by cases q) fun y' ys' i v h' tk bs q hi rdv k => ?_
          cases q
          rw [em] at rdv
          obtain ⟨y2, q1, q2⟩ := pick_rep I (uni_pl hun) hv rv hm (by simpa using hi) k rdv
          exact ⟨y2, H, I.kept k, q2, p.here S q1⟩
end
section
variable {X : Cx} {Z : ZT} {P : List Fn} {n : Nat} {r rc : Ev} {a b c : E} {xa xb xc tg : Expr} {pos p p2 apos kpos : Pos} {es : List Expr} {x : Str}
theorem e_mxd (hc : X.calm = true) (hu : X.A.units + 200 < cLine) (hz : ZMono Z) (ha : PE X xa (tE X.K Z r a)) (hb : PE X xb (tE X.K Z r b)) (hn : nst xa = true) (hg : Gl X "max") (hm : X.mg "max" = none) :
    PE X (.Call (.Name "max" p) [xa] [⟨some (Str.ofString "default"), xb, kpos⟩] pos) (tE X.K Z (step P n r rc) (.mxd .max a b)) := by
  refine impE (pe_callBK (cr_maxD hc hu) hg hm (by decide +kernel) (pa_cons ha pa_nil (star_cons hn)) (pk_cons hb pk_nil) (by decide) (by decide) (by rw [star_cons hn]; rfl) (star_any (es := [xa]) (by show (nst xa && true) = true; rw [hn]; rfl))) fun σ H Q ⟨μ, env, st, hE, hS, h⟩ => ?_
  refine seqE hz hE hS h fun d st1 μ1 v H1 L1 r1 S1 h1 => seqE hz (hE.mono L1) S1 h1 fun d2 st2 μ2 w H2 L2 r2 S2 h2 => ?_
  obtain ⟨d3, st3, e, q⟩ := pst_val h2
  exact ⟨μ2, v, w, d, d2, st2, d3, st3, rfl, rfl, S2, r1.mono L2, r2, e, q.mono (L1.trans L2)⟩
/-! ### list(d.values()) -/
theorem e_vws (hc : X.calm = true) (hz : ZMono Z) (ha : PE X xa (tE X.K Z r a)) (hsup : nsup xa = true) (hl : (apos.endLine == p2.line) = true) (hg : Gl X "list") (hm : X.mg "list" = none) :
    PE X (.Call (.Name "list" p) [.Call (.Attribute xa "values" apos) [] [] p2] [] pos) (tE X.K Z (step P n r rc) (.vws a)) := by
  refine impE (pe_callTy (call_list_vw hc) hg hm PyProof.Rows.boot_list (pa_cons (pe_values ha (nsup_ok hsup _ _) hl) pa_nil)) fun σ H Q ⟨μ, env, st, hE, hS, h⟩ => ?_
  refine seqE hz hE hS h fun d st1 μ1 v H1 L1 r1 S1 h1 => ?_
  obtain ⟨d3, st3, e, q⟩ := pst_val h1
  cases d with
  | ref l =>
    obtain ⟨a', ha', rfl⟩ := r1
    have e : (match sget st1 l with
      | some (.dct kvs) => if small kvs.length = true then new (.lst (kvs.map fun (p : D × D) => p.2)) st1 else .no
      | some (.dcT kvs) => if small kvs.length = true then new (.lst (kvs.map fun (p : D × D) => p.2)) st1 else .no
      | _ => .no) = .ok d3 st3 := e
    have fin : ∀ (ds : List D) (vs : List V), DVals H1 a' vs → Paired (Rep X.K μ1 H1) ds vs → new (.lst ds) st1 = .ok d3 st3 →
        ∃ d vs, V.ref a' = .ref d ∧ DVals H1 d vs ∧ ∀ p, H1 p = none → tCB (fun xs H Q => ∃ p d vs, xs = [.ref p] ∧ H p = some (.ext (VwP p d)) ∧ DVals H d vs ∧ ∀ q, H q = none → Q (.ref q) (upd H q (.lst vs))) (fun _ H' Q' => Q' [.ref p] H') σ (upd H1 p (.ext (VwP p d))) Q := fun ds vs g hv e => by
      obtain ⟨rfl, rfl⟩ := new_ok e
      refine ⟨a', vs, rfl, g, fun p hp => ?_⟩
      have L2 := le_new S1 hp (.ext (VwP p a'))
      refine ⟨p, a', vs, rfl, upd_same, ?_, ?_⟩
      · have ne : ∀ u, Rd H1 a' u → a' ≠ p := fun u g z => by
          subst z
          rcases g with g | ⟨_, g⟩ <;> (rw [hp] at g; cases g)
        have up : ∀ u, Rd H1 a' u → Rd (upd H1 p (.ext (VwP p a'))) a' u := fun u g => by
          have n := ne u g
          rcases g with g | ⟨o, g⟩
          · exact .inl (by rw [upd_ne n]; exact g)
          · exact .inr ⟨o, by rw [upd_ne n]; exact g⟩
        rcases g with ⟨kvs, g, e⟩ | ⟨xs, g, e⟩
        · exact .inl ⟨kvs, up _ g, e⟩
        · exact .inr ⟨xs, up _ g, e⟩
      · exact ((show Post X.K μ H (.ref st1.length) (st1 ++ [.lst ds]) Q from q).mono (L1.trans L2)).lay (S1.new hp _) (fun z => z) (obj_lst (S1.new hp _) (Pr.imp hv fun _ _ z => z.mono L2))
    cases e1 : sget st1 l with
    | none => rw [e1] at e; cases e
    | some o =>
      rw [e1] at e
      cases o with
      | dct kvs =>
        obtain ⟨_, e⟩ := ite_ok (show (if small kvs.length = true then new (.lst (kvs.map fun (p : D × D) => p.2)) st1 else .no) = .ok d3 st3 from e)
        obtain ⟨l', h1, h2⟩ := (show ∃ l, H1 a' = some (.dK l) ∧ KVR X.K μ1 H1 kvs l from S1.at_ ha' e1)
        exact fin _ (l'.map (·.2)) (.inl ⟨l', .inl h1, rfl⟩) (pr_map2 h2 fun _ _ z => z.2) e
      | dcT kvs =>
        obtain ⟨_, e⟩ := ite_ok (show (if small kvs.length = true then new (.lst (kvs.map fun (p : D × D) => p.2)) st1 else .no) = .ok d3 st3 from e)
        obtain ⟨l', h1, h2⟩ := (show ∃ l, H1 a' = some (.ext (TDp a' l)) ∧ KVT X.K μ1 H1 kvs l from S1.at_ ha' e1)
        exact fin _ (l'.map fun x => x.2.2) (.inr ⟨l', .inl h1, rfl⟩) (pr_map2 h2 fun _ _ z => z.2.2) e
      | _ => cases e
  | _ => cases e
/-! ### pairs of a dict -/
theorem it_itemsK {K : PySem.W.Frag} {μ : List Addr} {H : Hp} {a : Addr} {ob : Obj} {kvs : List (D × D)} {l' : List (Key × V)} (ha : H a = some (.frz ob (.dK l'))) (hk : KVR K μ H kvs l') : ItOk K (Iti a ob l') ⟨kvs.map fun (p : D × D) => .tup [p.1, p.2], [], true⟩ μ H := fun i μ2 H2 st2 L S h => by
  have q := L.im _ _ ha trivial
  refine ⟨fun d hd => ?_, fun hn => ⟨q, ?_⟩⟩
  · have hd : (kvs.map fun (p : D × D) => D.tup [p.1, p.2])[i]? = some d := hd
    rw [List.getElem?_map] at hd
    cases e : kvs[i]? with
    | none => rw [e] at hd; cases hd
    | some m =>
      rw [e] at hd
      cases hd
      obtain ⟨v, g1, g2, g3⟩ := Pr.get hk e
      refine ⟨⟨q, (List.getElem?_eq_some_iff.mp g1).1⟩, fun x H3 ⟨T, k, w, e2, ex, hT, hH⟩ => ?_⟩
      rw [g1] at e2
      cases e2
      exact ⟨T, _, _, _, _, rfl, ex, hT, hH, by rw [g2]; exact rep_kD', g3.mono0 L.pre L.im⟩
  · have := List.getElem?_eq_none_iff.mp (show (kvs.map fun (p : D × D) => D.tup [p.1, p.2])[i]? = none from hn)
    rw [List.length_map, hk.length] at this
    exact this
theorem it_itemsT {K : PySem.W.Frag} {μ : List Addr} {H : Hp} {a : Addr} {ob : Obj} {kvs : List (D × D)} {l' : TX} (ha : H a = some (.frz ob (.ext (TDp a l')))) (hk : KVT K μ H kvs l') : ItOk K (ItiT a ob l') ⟨kvs.map fun (p : D × D) => .tup [p.1, p.2], [], true⟩ μ H := fun i μ2 H2 st2 L S h => by
  have q := L.im _ _ ha trivial
  refine ⟨fun d hd => ?_, fun hn => ⟨q, ?_⟩⟩
  · have hd : (kvs.map fun (p : D × D) => D.tup [p.1, p.2])[i]? = some d := hd
    rw [List.getElem?_map] at hd
    cases e : kvs[i]? with
    | none => rw [e] at hd; cases hd
    | some m =>
      rw [e] at hd
      cases hd
      obtain ⟨v, g1, g2, ⟨its, g4⟩, g3⟩ := Pr.get hk e
      refine ⟨⟨q, (List.getElem?_eq_some_iff.mp g1).1⟩, fun x H3 ⟨T, p, e2, ex, hT, hH⟩ => ?_⟩
      rw [g1] at e2
      cases e2
      exact ⟨T, _, _, _, _, rfl, ex, hT, hH, by rw [g2]; exact ⟨_, _, its, rfl, L.im _ _ g4 trivial, kints_rep v.1⟩, g3.mono0 L.pre L.im⟩
  · have := List.getElem?_eq_none_iff.mp (show (kvs.map fun (p : D × D) => D.tup [p.1, p.2])[i]? = none from hn)
    rw [List.length_map, hk.length] at this
    exact this
theorem i_items {elts : List Expr} {kk : Nat} {tpos : Pos} (hz : ZMono Z) (ha : PE X xa (tE X.K Z r a)) (hsup : nsup xa = true) (hl : (apos.endLine == pos.line) = true) :
    PI X (.Tuple elts kk tpos) (.Call (.Attribute xa "items" apos) [] [] pos) (tI X.K Z (step P n r rc) (.mth .items a .nil)) :=
  impI (pi_itemsB ha (nsup_ok hsup _ _) hl) fun σ H Rr ⟨μ, env, st, hE, hS, h⟩ => by
    have h : ((r.e a env st).bind fun x st => (match x with
          | .ref l => (match sget st l with | some (.lck kvs) => R.ok (⟨kvs.map fun (p : D × D) => .tup [p.1, p.2], [], true⟩ : Ev.It) st | some (.lcT kvs) => .ok ⟨kvs.map fun (p : D × D) => .tup [p.1, p.2], [], true⟩ st | _ => .no)
          | _ => .no)).pst (fun it st' => ∀ μ1 J H1, Le μ H μ1 H1 → StR X.K μ1 H1 st' → ItOk X.K J it μ1 H1 → Rr J H1) (Z μ H) := h
    refine seqE hz hE hS h fun d st1 μ1 v H1 L1 r1 S1 h1 => ?_
    cases d with
    | ref l =>
      obtain ⟨a', ha', rfl⟩ := r1
      cases e1 : sget st1 l with
      | none => dsimp only at h1; rw [e1] at h1; exact h1.elim
      | some o =>
        dsimp only at h1
        rw [e1] at h1
        cases o with
        | lck kvs =>
          obtain ⟨ob, l', g1, g2⟩ := (show ∃ ob l, H1 a' = some (.frz ob (.dK l)) ∧ KVR X.K μ1 H1 kvs l from S1.at_ ha' e1)
          exact ⟨a', ob, rfl, .inl ⟨l', g1, h1 μ1 _ H1 L1 S1 (it_itemsK g1 g2)⟩⟩
        | lcT kvs =>
          obtain ⟨ob, l', g1, g2⟩ := (show ∃ ob l, H1 a' = some (.frz ob (.ext (TDp a' l))) ∧ KVT X.K μ1 H1 kvs l from S1.at_ ha' e1)
          exact ⟨a', ob, rfl, .inr ⟨l', g1, h1 μ1 _ H1 L1 S1 (it_itemsT g1 g2)⟩⟩
        | _ => exact h1.elim
    | _ => exact h1.elim
/-! ### two places at once -/
theorem asg_consN {e : Expr} {es : List Expr} {env : PySem.Env} (h : nst e = true) : assignEach (e :: es) env = (false, assign e env) :: assignEach es env := by
  cases e <;> first | rfl | cases h
def gG (K : PySem.W.Frag) (Z : ZT) (r : Ev) : G → TG
  | .nm i => gName i
  | .sub o i => gSub (tE K Z r o) (tE K Z r i) (vSet K)
theorem bind_bind {α β γ : Type} (x : R α) (f : α → Sto → R β) (g : β → Sto → R γ) : (x.bind f).bind g = x.bind fun a st => (f a st).bind g := by cases x <;> rfl
theorem take_g {K : PySem.W.Frag} {μ : List Addr} {H : Hp} {env : Env} {σ : L2.St} {st : Sto} {β : Type} {B : β → Sto → Prop} {d : D} {v : V} (hz : ZMono Z) (hE : EnvR K μ H env σ) (hS : StR K μ H st) (rv : Rep K μ H d v) {f : Env → Sto → R β} : ∀ {g : G}, ((G.take r g d env st).bind f).pst B (Z μ H) → ∀ {Q : L2.St → Hp → Prop},
    (∀ env1 st1 μ1 σ1 H1, Le μ H μ1 H1 → EnvR K μ1 H1 env1 σ1 → StR K μ1 H1 st1 → (f env1 st1).pst B (Z μ1 H1) → Q σ1 H1) → gG K Z r g v σ H Q
  | .nm i, h, Q, k => k _ _ μ _ H .refl (hE.put rv) hS h
  | .sub o i, h, Q, k => by
    have h : (((r.e o env st).bind fun x st => (r.e i env st).bind fun y st => (store x y d st).val.bind fun _ st => R.ok env st).bind f).pst B (Z μ H) := h
    rw [bind_bind] at h
    refine seqE hz hE hS h fun d1 st1 μ1 v1 H1 L1 r1 S1 h1 => ?_
    rw [bind_bind] at h1
    refine seqE hz (hE.mono L1) S1 h1 fun d2 st2 μ2 v2 H2 L2 r2 S2 h2 => ?_
    rw [bind_bind] at h2
    obtain ⟨u, st3, e, q⟩ := pst_val (pst_bind_val h2)
    exact store_ok S2 (r1.mono L2) r2 ((rv.mono L1).mono L2) e fun H3 L3 S3 => k env st3 μ2 σ H3 ((L1.trans L2).trans L3) (((hE.mono L1).mono L2).mono L3) S3 (pst_mono (show (f env st3).pst B (Z μ2 H2) from q) (fun _ _ z => z) fun _ _ z => hz _ _ _ _ _ _ L3 z)
theorem s_mul {t u : G} {t1 t2 v1 v2 : Expr} {k1 k2 : Nat} {p1 : Pos} (hc : X.calm = true) (hz : ZMono Z) (ha : PE X v1 (tE X.K Z r a)) (hb : PE X v2 (tE X.K Z r b)) (n1 : nst v1 = true) (n2 : nst v2 = true) (g1 : PG X t1 (gG X.K Z r t)) (g2 : PG X t2 (gG X.K Z r u)) (m1 : nst t1 = true) (m2 : nst t2 = true)
    (hs : swapsWithSole [.Tuple [t1, t2] k1 p1] (.Tuple [v1, v2] k2 p2) pos.line X.env = pure false) (hw : swappedStores [.Tuple [t1, t2] k1 p1] (.Tuple [v1, v2] k2 p2) X.env = pure none) :
    PS X (.Assign [.Tuple [t1, t2] k1 p1] (.Tuple [v1, v2] k2 p2) pos) (tS X.K Z (step P n r rc) (.mul t u a b)) := by
  have c1 := asg_consN (es := [t2]) (env := X.env) m1
  have c2 := asg_consN (es := []) (env := X.env) m2
  have hg : PG X (.Tuple [t1, t2] k1 p1) (gTup X.K 2 (gCons (gG X.K Z r t) (gCons (gG X.K Z r u) gNil))) :=
    pg_tup hc (pgs_cons g1 (pgs_cons g2 pgs_nil (by rw [c2]; rfl)) (by rw [c1]; rfl)) (by rw [c1, c2]; rfl) (by rw [c1, c2]; rfl)
  refine impS (ps_asg (pe_tupX (pa_cons ha (pa_cons hb pa_nil (star_cons n2)) (star_cons n1))) hg hs hw rfl) fun D σ H ⟨μ, env, st, hE, hS, h⟩ => ?_
  have h : ((r.e a env st).bind fun d st => (r.e b env st).bind fun d' st => (G.take r t d env st).bind fun env st => (G.take r u d' env st).bind fun env st => R.ok (Out.nx env) st).pst (fun o st' => PostS X.K μ H o st' D) (Z μ H) := h
  refine seqE hz hE hS h fun d st1 μ1 v H1 L1 r1 S1 h1 => seqE hz (hE.mono L1) S1 h1 fun d2 st2 μ2 w H2 L2 r2 S2 h2 => ⟨by show 2 ≤ sizeLine; decide, fun its p hp => ?_⟩
  have L3 := le_new S2 hp (.frz (tupO its) (.tup [v, w]))
  refine ⟨p, [v, w], rfl, .inl (.inr ⟨_, upd_same⟩), rfl, v, [w], rfl, ?_⟩
  refine take_g hz (((hE.mono L1).mono L2).mono L3) (S2.new hp _) ((r1.mono L2).mono L3) (pst_mono h2 (fun _ _ z => z) fun _ _ z => hz _ _ _ _ _ _ L3 z) fun env3 st3 μ3 σ3 H3 L4 hE3 S3 h3 => ?_
  refine ⟨w, [], rfl, take_g hz hE3 S3 ((r2.mono L3).mono L4) h3 fun env4 st4 μ4 σ4 H4 L5 hE4 S4 h4 => ⟨rfl, ?_⟩⟩
  exact (show PostS X.K μ H (.nx env4) st4 D from h4) μ4 σ4 H4 ((((L1.trans L2).trans L3).trans L4).trans L5) hE4 S4
end
end Ev
end

section
set_option Elab.async false
set_option linter.all false
set_option maxRecDepth 100000
set_option maxHeartbeats 2000000
/-! Snd16d: math's functions, imported. -/
namespace Ev
open PySem PySem.Spec L2
def impN : Blt → Option String
  | .factorial => some "math.factorial" | .lcm => some "math.lcm"
  | _ => none
section
variable {X : Cx}
theorem fact_eq : ∀ n : Nat, Builtin.Math.factorialNat n = fact n
  | 0 => rfl
  | n + 1 => by rw [PySem.W.mc_fac_succ, fact_eq n, fact, Nat.mul_comm]
theorem fact_small : ∀ n : Nat, n < 25 → ((fact n : Nat) : Int).natAbs.log2 < bitsLine := by
  intro n h
  have : ∀ n, n < 25 → (fact n).log2 < bitsLine := by decide +kernel
  simpa using this n h
theorem cr_factorial : CallR X (.builtin "math.factorial") (vBlt X.K .factorial) := by
  intro pins s σ H xs us Q I r ⟨μ, ds, st, d, st', S, rd, h, p⟩
  match ds, rd, h with
  | [], _, h => cases h
  | [d0], rd, h =>
    obtain ⟨x, rfl, r1⟩ := rl1 rd
    have h : blt1 .factorial d0 st = .ok d st' := h
    cases d0 with
    | int i =>
      obtain ⟨hb, h⟩ := ite_ok (show (if (decide (0 ≤ i) && decide (i < 25)) = true then R.ok (D.int (fact i.toNat)) st else R.no) = .ok d st' from h)
      cases h
      obtain ⟨b1, b2⟩ := b_and hb
      have b1 := of_decide_eq_true b1
      have b2 := of_decide_eq_true b2
      cases (show x = .int i from r1)
      cases r with
      | cons ry rt =>
        cases rt
        obtain ⟨t, rfl⟩ := ry
        have e := fact_eq i.toNat
        refine PySem.W.mg_factorial_v (c := ((fact i.toNat : Nat) : Int)) (by show ¬ i > 9223372036854775807; omega) (by omega) (fun q => absurd q (by unfold Builtin.Math.manyFactors; omega)) (by rw [e]) (fact_small _ (by omega)) ⟨.int _, H, I.tok _, ⟨_, rfl⟩, p.int S⟩
    | _ => cases h
  | d0 :: d1 :: [], rd, h =>
    have h : blt2 .factorial d0 d1 st = .ok d st' := h
    cases d0 <;> first | (cases h; done) | skip
    cases d1 <;> cases h
  | _ :: _ :: _ :: _, _, h => cases h
theorem cr_lcm : CallR X (.builtin "math.lcm") (vBlt X.K .lcm) := by
  intro pins s σ H xs us Q I r ⟨μ, ds, st, d, st', S, rd, h, p⟩
  match ds, rd, h with
  | [], _, h => cases h
  | [d0], rd, h =>
    have h : blt1 .lcm d0 st = .ok d st' := h
    cases h
  | d0 :: d1 :: [], rd, h =>
    obtain ⟨x, y, rfl, r1, r2⟩ := rl2 rd
    have h : blt2 .lcm d0 d1 st = .ok d st' := h
    cases d0 <;> first | (cases h; done) | skip
    cases d1 <;> first | (cases h; done) | skip
    rename_i i j h0
    obtain ⟨hb, h⟩ := ite_ok (show (if (Nat.blt i.natAbs 1073741824 && Nat.blt j.natAbs 1073741824) = true then R.ok (D.int (Int.lcm i j)) st else R.no) = .ok d st' from h)
    cases h
    obtain ⟨b1, b2⟩ := b_and hb
    have b1 := Nat.blt_eq.mp b1
    have b2 := Nat.blt_eq.mp b2
    cases (show x = .int i from r1)
    cases (show y = .int j from r2)
    cases r with
    | cons ry rt =>
      cases rt with
      | cons rz rt =>
        cases rt
        obtain ⟨t, rfl⟩ := ry
        obtain ⟨t2, rfl⟩ := rz
        have e : ((Nat.lcm 1 i.natAbs).lcm j.natAbs : Nat) = Int.lcm i j := by rw [Nat.lcm_one_left]; rfl
        refine PySem.W.mg_lcm_v (c := ((Int.lcm i j : Nat) : Int)) (by omega) (by omega) (by rw [e]) ?_ ⟨.int _, H, I.tok _, ⟨_, rfl⟩, p.int S⟩
        have hle : Int.lcm i j ≤ i.natAbs * j.natAbs ∨ Int.lcm i j = 0 := by
          by_cases hz : i.natAbs * j.natAbs = 0
          · right
            show Nat.lcm i.natAbs j.natAbs = 0
            rcases Nat.mul_eq_zero.mp hz with z | z <;> simp [z]
          · exact .inl (Nat.le_of_dvd (Nat.pos_of_ne_zero hz) (Nat.lcm_dvd_mul _ _))
        have hb : Int.lcm i j < 2 ^ 64 := by
          rcases hle with hle | hle
          · have : i.natAbs * j.natAbs ≤ 1073741824 * 1073741824 := Nat.mul_le_mul (by omega) (by omega)
            omega
          · rw [hle]; decide
        have : ((Int.lcm i j : Nat) : Int).natAbs = Int.lcm i j := rfl
        rw [this]
        by_cases z : Int.lcm i j = 0
        · rw [z]; decide
        · exact Nat.lt_of_lt_of_le ((Nat.log2_lt z).mpr hb) (by decide)
  | _ :: _ :: _ :: _, _, h => cases h
theorem cr_imp {b : Blt} {f : String} (h : impN b = some f) : CallR X (.builtin f) (vBlt X.K b) := by
  cases b <;> cases h
  · exact cr_factorial
  · exact cr_lcm
end
section
variable {X : Cx} {Z : ZT} {P : List Fn} {n : Nat} {r rc : Ev} {a b c : E} {xa xb xc : Expr} {pos p : Pos} {es : List Expr}
theorem e_imp {b : Blt} {f : String} {as : E} (hz : ZMono Z) (hf : impN b = some f) (hr : asRng (oneE as) = none) (hg : Gl X (bltN b)) (hm : X.mg (bltN b) = some (.builtin f)) (ha : PA X (xa :: es) (tEs X.K Z r as)) (hs : nsts (xa :: es) = true) :
    PE X (.Call (.Name (bltN b) p) (xa :: es) [] pos) (tE X.K Z (step P n r rc) (.blt b as)) := by
  obtain ⟨h1, h2⟩ := b_and hs
  exact impE (pe_callBfun (cr_imp hf) hg hm ha (by cases b <;> first | decide | cases hf) (star_cons h1) (star_any h2)) fun σ H Q h => blt_core hz hr h
end
end Ev
end

section
set_option Elab.async false
set_option linter.all false
set_option maxRecDepth 100000
set_option maxHeartbeats 4000000
/-! Snd17: the check of a text against its reading. -/
namespace Ev
open PySem PySem.Spec L2
def bltIx : Blt → Nat
  | .len => 0
  | .range => 1
  | .tuple => 2
  | .list => 3
  | .set => 4
  | .dict => 5
  | .sorted => 6
  | .min => 7
  | .max => 8
  | .sum => 9
  | .abs => 10
  | .int => 11
  | .str => 12
  | .enumerate => 13
  | .zip => 14
  | .reversed => 15
  | .all => 16
  | .any => 17
  | .ord => 18
  | .factorial => 19
  | .gcd => 20
  | .lcm => 21
/-- names by place, the scope that runs, a block's own scope, the defs -/
structure Ctx where
  N : List Str
  sc : Scope
  osc : Option Scope
  fs : List Str
  cs : List (Str × D)
  im : List Blt
def Ctx.blk (C : Ctx) (scope : Scope) : Ctx := { C with sc := relS scope C.sc, osc := some scope }
def visB (C : Ctx) (i : Nat) (x : Str) : Bool := decide (C.N[i]? = some x) && (match C.sc.names.lookup x with | some .local => true | some .cell => true | some .free => true | _ => false) && !(x == ("__debug__" : Str)) && !(x == ("__classdict__" : Str))
def locB (C : Ctx) (i : Nat) (x : Str) : Bool := decide (C.N[i]? = some x) && (match C.sc.names.lookup x with
  | some .local => true
  | some .cell => (match C.osc with | none => true | some s => decide (s.names.lookup x = some .cell))
  | _ => false)
def glB (C : Ctx) (x : Str) : Bool := match C.sc.names.lookup x with | some .globalImplicit => true | _ => false
def isComp : Expr → Bool
  | .Set .. => true
  | _ => false
def noSlice : Expr → Bool
  | .Slice .. => false
  | _ => true
def ownOf (C : Ctx) (vs : List Nat) : List (Str × Nat) := vs.map fun i => ((C.N[i]?).getD Str.empty, i)
def isMaxB : Blt → Bool
  | .max => true
  | _ => false
def isStrC : E → Bool
  | .cst d => (match d with | .str _ => true | _ => false)
  | _ => false
def isCmpE : E → Bool
  | .cmp .. => true
  | .cmp2 .. => true
  | _ => false
def isLc : E → Bool
  | .lc .. => true
  | _ => false
/-- one or two arguments -/
def twoE : E → Bool
  | .cons _ q => (match q with | .nil => true | .cons _ q' => (match q' with | .nil => true | _ => false) | _ => false)
  | _ => false
def threeE : E → Bool
  | .cons _ q => (match q with | .cons _ q => (match q with | .cons _ q => (match q with | .nil => true | _ => false) | _ => false) | _ => false)
  | _ => false
def ltB : Blt → Bool
  | .list => true
  | .tuple => true
  | _ => false
/-- an iterator of pairs just made -/
def prB : E → Bool
  | .blt b _ => (match b with | .enumerate => true | .zip => true | _ => false)
  | .mth m _ _ => (match m with | .items => true | _ => false)
  | _ => false
mutual
def chkG : T → Ctx → Expr → Bool
  | .nm i, C, x => (match x with | .Name y _ => locB C i y | _ => false)
  | .nil, C, x => (match x with | .Tuple es _ _ => (match es with | [] => true | _ :: _ => false) | _ => false)
  | .cons t r, C, x => (match x with | .Tuple es _ _ => (match es with | [] => false | e :: es => nst e && chkG t C e && chkGs r C es) | _ => false)
def chkGs : T → Ctx → List Expr → Bool
  | .nm _, _, _ => false
  | .nil, _, es => (match es with | [] => true | _ :: _ => false)
  | .cons t r, C, es => (match es with | [] => false | e :: es => nst e && chkG t C e && chkGs r C es)
end
mutual
def chkE : E → Ctx → Expr → Bool
  | .var i, C, x => (match x with | .Name y _ => visB C i y | _ => false)
  | .cst d, C, x => (match x with | .Constant k _ _ => cstOk d k | _ => false)
  | .glb y d, C, x => (match x with | .Name z _ => decide (y = z) && glB C z && !(z == ("__debug__" : Str)) && C.cs.any fun p => decide (p.1 = z) && D.beq p.2 d | _ => false)
  | .bin o a b, C, x => (match x with
    | .BinOp l op r _ => decide (op = pyB o) && chkE a C l && (chkE b C r || (isStrC a && chkK b C r))
    | _ => false)
  | .neg a, C, x => (match x with | .UnaryOp op v _ => decide (op = .USub) && chkE a C v | _ => false)
  | .cmp o a b, C, x => (match x with
    | .Compare l ops rs _ => (match ops with
      | [] => false
      | op :: ops => (match ops with
        | _ :: _ => false
        | [] => (match rs with
          | [] => false
          | r :: rs => (match rs with | _ :: _ => false | [] => decide (op = pyC o) && chkE a C l && chkE b C r && !behindInMarks (pyC o) r))))
    | _ => false)
  | .cmp2 o p a b c, C, x => (match x with
    | .Compare l ops rs _ => (match ops with
      | op :: op2 :: ops => (match ops with
        | _ :: _ => false
        | [] => (match rs with
          | r :: r2 :: rs => (match rs with | _ :: _ => false | [] => decide (op = pyC o) && decide (op2 = pyC p) && chkE a C l && chkE b C r && chkE c C r2 && !lastMarks [pyC o, pyC p] [r, r2])
          | _ => false))
      | _ => false)
    | _ => false)
  | .and a b, C, x => (match x with
    | .BoolOp op vs p => decide (op = .And) && (match vs with
      | y :: z :: rest => chkE a C y && (match rest with | [] => chkE b C z | _ :: _ => chkE b C (.BoolOp .And (z :: rest) p))
      | _ => false)
    | _ => false)
  | .or a b, C, x => (match x with
    | .BoolOp op vs p => decide (op = .Or) && (match vs with
      | y :: z :: rest => chkE a C y && (match rest with | [] => chkE b C z | _ :: _ => chkE b C (.BoolOp .Or (z :: rest) p))
      | _ => false)
    | _ => false)
  | .not a, C, x => (match x with | .UnaryOp op v _ => decide (op = .Not) && chkE a C v | _ => false)
  | .ifx c a b, C, x => (match x with | .IfExp t v w _ => chkT c C t && chkE a C v && chkE b C w | _ => false)
  | .tup es, C, x => (match x with | .Tuple xs _ _ => chkEs es C xs | _ => false)
  | .lst es, C, x => (match x with | .List xs _ => chkEs es C xs | _ => false)
  | .idx a i, C, x => (match x with | .Subscript v s _ => chkE a C v && chkE i C s && noSlice s | _ => false)
  | .slc a lo hi, C, x => (match x with
    | .Subscript v s _ => (match s with
      | .Slice l h st _ => (match st with
        | none => chkE a C v && (match l with | none => (match lo with | .none => true | _ => false) | some y => chkE lo C y) && (match h with | none => (match hi with | .none => true | _ => false) | some y => chkE hi C y)
        | some _ => false)
      | _ => false)
    | _ => false)
  | .rev a, C, x => (match x with
    | .Subscript v s _ => (match s with
      | .Slice l h st _ => (match l with
        | none => (match h with
          | none => (match st with
            | some y => (match y with
              | .UnaryOp op k _ => (match k with | .Constant z _ _ => decide (op = .USub) && decide (z = .int 1) && chkE a C v | _ => false)
              | _ => false)
            | none => false)
          | some _ => false)
        | some _ => false)
      | _ => false)
    | _ => false)
  | .call i es, C, x => (match x with
    | .Call f args kws _ => (match f with
      | .Name y _ => (match kws with
        | [] => decide (C.fs[i]? = some y) && glB C y && !(y == ("__debug__" : Str)) && chkEs es C args && nsts args
        | _ :: _ => false)
      | _ => false)
    | _ => false)
  | .blt b es, C, x => (match x with
    | .Call f args kws _ => (match f with
      | .Name y _ => (match kws with
        | [] => decide (y = bltN b) && glB C y && nsts args && (match args with | [] => false | _ :: _ => true) &&
          ((((bltF b).isSome || (bltT b).isSome || ((impN b).isSome && C.im.any fun q => Nat.beq (bltIx q) (bltIx b))) && (match asRng (oneE es) with | none => true | some _ => false) && chkEs es C args) || (ltB b && chkR es C args))
        | _ :: _ => false)
      | _ => false)
    | _ => false)
  | .mth m o es, C, x => (match x with
    | .Call f args kws p => (match f with
      | .Attribute v y ap => (match kws with
        | [] => decide (y = mthN m) && chkE o C v && chkEs es C args && nsts args && nsup v && (ap.endLine == p.line) && Nat.blt args.length 29
        | _ :: _ => false)
      | _ => false)
    | _ => false)
  | .dic _, C, x => (match x with
    | .Dict ks vs _ => (match ks with | [] => (match vs with | [] => true | _ :: _ => false) | _ :: _ => false)
    | _ => false)
  | .dc1 _ a b, C, x => (match x with
    | .Dict ks vs _ => (match ks with
      | [] => false
      | o :: rest => (match rest with
        | _ :: _ => false
        | [] => (match o with
          | none => false
          | some k => (match vs with
            | [] => false
            | v :: rest => (match rest with | _ :: _ => false | [] => chkE a C k && chkE b C v)))))
    | _ => false)
  | .mxd b a d, C, x => (match x with
    | .Call f args kws _ => (match f with
      | .Name y _ => (match args with
        | [] => false
        | xa :: rest => (match rest with
          | _ :: _ => false
          | [] => (match kws with
            | [] => false
            | kw :: rest => (match rest with
              | _ :: _ => false
              | [] => (match kw with
                | ⟨nm, xd, _⟩ => isMaxB b && decide (y = "max") && decide (nm = some (Str.ofString "default")) && glB C y && nst xa && chkE a C xa && chkE d C xd)))))
      | _ => false)
    | _ => false)
  | .vws o, C, x => (match x with
    | .Call f args kws _ => (match f with
      | .Name y _ => (match kws with
        | _ :: _ => false
        | [] => (match args with
          | [] => false
          | w :: rest => (match rest with
            | _ :: _ => false
            | [] => (match w with
              | .Call g args2 kws2 p2 => (match g with
                | .Attribute v nm ap => (match args2 with
                  | _ :: _ => false
                  | [] => (match kws2 with
                    | _ :: _ => false
                    | [] => decide (y = "list") && decide (nm = "values") && glB C y && chkE o C v && nsup v && (ap.endLine == p2.line)))
                | _ => false)
              | _ => false))))
      | _ => false)
    | _ => false)
  | .isi t e, C, x => (match x with
    | .Call f args kws _ => (match f with
      | .Name y _ => (match kws with
        | [] => (match args with
          | v :: w :: rest => (match rest with
            | [] => (match w with | .Name z _ => decide (y = "isinstance") && decide (z = Str.ofString (tyN t)) && glB C y && glB C z && chkE e C v && nst v | _ => false)
            | _ :: _ => false)
          | _ => false)
        | _ :: _ => false)
      | _ => false)
    | _ => false)
  | .lc vs t it c e, C, x => (match x with
    | .ListComp elt gens scope _ => (match gens with
      | g :: rest => (match rest with
        | [] => (match g with
          | ⟨tg, iter, ifs, asy⟩ => decide (asy = 0) && blkC C.N C.sc scope (ownOf C vs) && t.wf && (t.slots.all fun j => decide (j ∈ vs)) && chkG t (C.blk scope) tg && chkI it C iter && !isComp iter && (!prB it || !t.isNm) &&
            (match ifs with | [] => (match c with | .none => true | _ => false) | i :: is => (match is with | [] => chkT c (C.blk scope) i | _ :: _ => false)) && chkE e (C.blk scope) elt)
        | _ :: _ => false)
      | [] => false)
    | _ => false)
  | .lc2 vs t it t2 it2 c e, C, x => (match x with
    | .ListComp elt gens scope _ => (match gens with
      | g :: rest => (match rest with
        | g2 :: rest => (match rest with
          | [] => (match g with
            | ⟨tg, iter, ifs, asy⟩ => (match g2 with
              | ⟨tg2, iter2, ifs2, asy2⟩ => decide (asy = 0) && decide (asy2 = 0) && (match ifs with | [] => true | _ :: _ => false) && blkC C.N C.sc scope (ownOf C vs) && t.wf && t2.wf && (t.slots.all fun j => decide (j ∈ vs)) && (t2.slots.all fun j => decide (j ∈ vs)) &&
                chkG t (C.blk scope) tg && chkG t2 (C.blk scope) tg2 && chkI it C iter && chkI it2 (C.blk scope) iter2 && !isComp iter && !isComp iter2 && (!prB it || !t.isNm) && (!prB it2 || !t2.isNm) &&
                (match ifs2 with | [] => (match c with | .none => true | _ => false) | i :: is => (match is with | [] => chkT c (C.blk scope) i | _ :: _ => false)) && chkE e (C.blk scope) elt))
          | _ :: _ => false)
        | [] => false)
      | [] => false)
    | _ => false)
  | _, _, _ => false
/-- what wants a token given out -/
def chkK : E → Ctx → Expr → Bool
  | .rpl a y z, C, x => (match x with
    | .Call f args kws p => (match f with
      | .Attribute v nm ap => (match kws with
        | [] => (match args with
          | k1 :: k2 :: rest => (match rest with
            | [] => (match k1 with
              | .Constant c1 _ _ => (match k2 with
                | .Constant c2 _ _ => decide (nm = "replace") && decide (c1 = .str y) && decide (c2 = .str z) && !(y == z) && nsup v && (ap.endLine == p.line) && (chkE a C v || chkK a C v)
                | _ => false)
              | _ => false)
            | _ :: _ => false)
          | _ => false)
        | _ :: _ => false)
      | _ => false)
    | _ => false)
  | _, _, _ => false
def chkEs : E → Ctx → List Expr → Bool
  | .nil, _, xs => (match xs with | [] => true | _ :: _ => false)
  | .cons e r, C, xs => (match xs with | [] => false | x :: xs => nst x && chkE e C x && chkEs r C xs)
  | _, _, _ => false
/-- one argument, range(..) -/
def chkR : E → Ctx → List Expr → Bool
  | .cons e q, C, args => (match q with
    | .nil => (match e with
      | .blt b as => (match b with
        | .range => (match args with
          | x :: rest => (match rest with
            | [] => (match x with
              | .Call f2 args2 kws2 _ => (match f2 with
                | .Name z _ => (match kws2 with
                  | [] => decide (z = "range") && glB C z && chkEs as C args2 && twoE as
                  | _ :: _ => false)
                | _ => false)
              | _ => false)
            | _ :: _ => false)
          | [] => false)
        | _ => false)
      | _ => false)
    | _ => false)
  | _, _, _ => false
def chkT : E → Ctx → Expr → Bool
  | .and a b, C, x => (match x with
    | .BoolOp op vs p => decide (op = .And) && (match vs with
      | y :: z :: rest => chkT a C y && (match rest with | [] => chkT b C z | _ :: _ => chkT b C (.BoolOp .And (z :: rest) p))
      | _ => false)
    | _ => false)
  | .or a b, C, x => (match x with
    | .BoolOp op vs p => decide (op = .Or) && (match vs with
      | y :: z :: rest => chkT a C y && (match rest with | [] => chkT b C z | _ :: _ => chkT b C (.BoolOp .Or (z :: rest) p))
      | _ => false)
    | _ => false)
  | .not a, C, x => (match x with | .UnaryOp op v _ => decide (op = .Not) && chkT a C v | _ => false)
  | .val e, C, x => chkE e C x && (tst x || isCmpE e)
  | _, _, _ => false
def chkI : E → Ctx → Expr → Bool
  | .blt b es, C, x => (match b with
    | .range => (match x with
      | .Call f args kws _ => (match f with
        | .Name y _ => (match kws with
          | [] => decide (y = "range") && glB C y && chkEs es C args && (twoE es || threeE es)
          | _ :: _ => false)
        | _ => false)
      | _ => false)
    | .enumerate => (match x with
      | .Call f args kws _ => (match f with
        | .Name y _ => (match kws with
          | [] => decide (y = "enumerate") && glB C y && chkEs es C args && (match es with | .cons _ q => (match q with | .nil => true | _ => false) | _ => false)
          | _ :: _ => false)
        | _ => false)
      | _ => false)
    | .zip => (match x with
      | .Call f args kws _ => (match f with
        | .Name y _ => (match kws with
          | [] => decide (y = "zip") && glB C y && chkEs es C args && (match es with | .cons _ q => (match q with | .cons _ q' => (match q' with | .nil => true | _ => false) | _ => false) | _ => false)
          | _ :: _ => false)
        | _ => false)
      | _ => false)
    | .reversed => (match x with
      | .Call f args kws _ => (match f with
        | .Name y _ => (match kws with
          | [] => decide (y = "reversed") && glB C y && chkR es C args
          | _ :: _ => false)
        | _ => false)
      | _ => false)
    | _ => false)
  | .mth m o es, C, x => (match m with
    | .items => (match es with
      | .nil => (match x with
        | .Call f args kws p => (match f with
          | .Attribute v y ap => (match args with
            | [] => (match kws with
              | [] => decide (y = "items") && chkE o C v && nsup v && (ap.endLine == p.line)
              | _ :: _ => false)
            | _ :: _ => false)
          | _ => false)
        | _ => false)
      | _ => false)
    | _ => false)
  | .val e, C, x => chkE e C x
  | _, _, _ => false
end
def chkGt : G → Ctx → Expr → Bool
  | .nm i, C, x => (match x with | .Name y _ => locB C i y | _ => false)
  | .sub o i, C, x => (match x with | .Subscript xo xi _ => chkE o C xo && chkE i C xi && noSlice xi | _ => false)
/-- no plain local name -/
def nlB (C : Ctx) : Expr → Bool
  | .Subscript .. => true
  | .Name y _ => !(decide (C.sc.names.lookup y = some .local))
  | _ => false
/-- name = [..] on one line -/
def swB (C : Ctx) (y : Str) (py : Pos) (x : Expr) : Bool := match x with
  | .ListComp _ _ scope pos => decide (C.sc.names.lookup y = some .local) && (py.line == pos.line) && !(scope.names.any fun (n, k) => n == y && (k == .local || k == .cell))
  | _ => false
def parOk (C : Ctx) (i j : Nat) (x y : Str) (px py : Pos) (a b : Expr) : Bool :=
  decide (C.N[i]? = some x) && decide (C.N[j]? = some y) && decide (i ≠ j) && decide (C.sc.names.lookup x = some .local) && decide (C.sc.names.lookup y = some .local) && decide (x ≠ y) && (py.line == px.line) && nst a && nst b &&
    !(foldedForSure 8 a && foldedForSure 8 b) && !(constantsAlone 8 a && constantsAlone 8 b)
def locO (C : Ctx) (i : Nat) (x : Str) : Bool := decide (C.N[i]? = some x) && decide (C.sc.names.lookup x = some .local)
def par3Ok (C : Ctx) (i j l : Nat) (x y z : Str) (px py pz : Pos) (a b c : Expr) : Bool :=
  locO C i x && locO C j y && locO C l z && decide (i ≠ j) && decide (i ≠ l) && decide (j ≠ l) && decide (x ≠ y) && decide (x ≠ z) && decide (y ≠ z) && (py.line == px.line) && (pz.line == px.line) && nst a && nst b && nst c &&
    !(foldedForSure 8 a && foldedForSure 8 b && foldedForSure 8 c) && !(constantsAlone 8 a && constantsAlone 8 b && constantsAlone 8 c)
mutual
def chkS : S → Ctx → Stmt → Bool
  | .exp e, C, x => (match x with | .Expr v _ => chkE e C v && ncmp v | _ => false)
  | .ret e, C, x => (match x with | .Return o _ => (match o with | some v => chkE e C v | none => false) | _ => false)
  | .retn, _, x => (match x with | .Return o _ => (match o with | some _ => false | none => true) | _ => false)
  | .brk, _, x => (match x with | .Break _ => true | _ => false)
  | .cnt, _, x => (match x with | .Continue _ => true | _ => false)
  | .skip, _, x => (match x with | .Pass _ => true | _ => false)
  | .asg t e, C, x => (match x with
    | .Assign tgs v p => (match tgs with
      | tg :: rest => (match rest with
        | [] => (match t with
          | .nm i => (match tg with | .Name y py => locB C i y && chkE e C v && (match v with | .ListComp .. => isLc e | _ => ncmp v) | _ => false)
          | _ => t.wf && chkG t C tg && nst tg && chkE e C v && ncmp v && !isTupE v)
        | _ :: _ => false)
      | [] => false)
    | _ => false)
  | .sto o i e, C, x => (match x with
    | .Assign tgs v _ => (match tgs with
      | tg :: rest => (match rest with
        | [] => (match tg with
          | .Subscript xo xi _ => chkE e C v && chkE o C xo && chkE i C xi && noSlice xi && ncmp v
          | _ => false)
        | _ :: _ => false)
      | [] => false)
    | _ => false)
  | .aug i o e, C, x => (match x with
    | .AugAssign tg op v _ => (match tg with | .Name y _ => locB C i y && decide (op = pyB o) && chkE e C v | _ => false)
    | _ => false)
  | .par i j a b, C, x => (match x with
    | .Assign tgs v _ => (match tgs with
      | tg :: rest => (match rest with
        | [] => (match tg with
          | .Tuple ts _ _ => (match ts with
            | t1 :: t2 :: tr => (match tr with
              | [] => (match t1 with
                | .Name y py => (match t2 with
                  | .Name z pz => (match v with
                    | .Tuple vs _ _ => (match vs with
                      | v1 :: v2 :: vr => (match vr with | [] => parOk C i j y z py pz v1 v2 && chkE a C v1 && chkE b C v2 | _ :: _ => false)
                      | _ => false)
                    | _ => false)
                  | _ => false)
                | _ => false)
              | _ :: _ => false)
            | _ => false)
          | _ => false)
        | _ :: _ => false)
      | [] => false)
    | _ => false)
  | .par3 i j l a b c, C, x => (match x with
    | .Assign tgs v _ => (match tgs with
      | tg :: rest => (match rest with
        | [] => (match tg with
          | .Tuple ts _ _ => (match ts with
            | t1 :: t2 :: t3 :: tr => (match tr with
              | [] => (match t1 with
                | .Name y py => (match t2 with
                  | .Name z pz => (match t3 with
                    | .Name w pw => (match v with
                      | .Tuple vs _ _ => (match vs with
                        | v1 :: v2 :: v3 :: vr => (match vr with | [] => par3Ok C i j l y z w py pz pw v1 v2 v3 && chkE a C v1 && chkE b C v2 && chkE c C v3 | _ :: _ => false)
                        | _ => false)
                      | _ => false)
                    | _ => false)
                  | _ => false)
                | _ => false)
              | _ :: _ => false)
            | _ => false)
          | _ => false)
        | _ :: _ => false)
      | [] => false)
    | _ => false)
  | .mul t u a b, C, x => (match x with
    | .Assign tgs v _ => (match tgs with
      | tg :: rest => (match rest with
        | [] => (match tg with
          | .Tuple ts _ _ => (match ts with
            | t1 :: t2 :: tr => (match tr with
              | [] => (match v with
                | .Tuple vs _ _ => (match vs with
                  | v1 :: v2 :: vr => (match vr with | [] => chkGt t C t1 && chkGt u C t2 && (nlB C t1 || nlB C t2 || (foldedForSure 8 v1 && foldedForSure 8 v2)) && nst v1 && nst v2 && chkE a C v1 && chkE b C v2 | _ :: _ => false)
                  | _ => false)
                | _ => false)
              | _ :: _ => false)
            | _ => false)
          | _ => false)
        | _ :: _ => false)
      | [] => false)
    | _ => false)
  | .ife c a b, C, x => (match x with | .If t u w _ => chkT c C t && chkSs a C u && chkSs b C w | _ => false)
  | .whl c b, C, x => (match x with | .While t u w _ => (match w with | [] => chkT c C t && chkSs b C u | _ :: _ => false) | _ => false)
  | .fr t it b, C, x => (match x with
    | .For tg iter u w _ => (match w with | [] => t.wf && chkG t C tg && chkI it C iter && !isComp iter && (!prB it || !t.isNm) && chkSs b C u | _ :: _ => false)
    | _ => false)
  | .nev, _, _ => true
  | _, _, _ => false
def chkSs : S → Ctx → List Stmt → Bool
  | .skip, _, xs => (match xs with | [] => true | _ :: _ => false)
  | .seq a b, C, xs => (match xs with | [] => false | x :: xs => chkS a C x && chkSs b C xs)
  | .nev, _, _ => true
  | _, _, _ => false
end
end Ev
end

section
set_option Elab.async false
set_option linter.all false
set_option maxRecDepth 100000
set_option maxHeartbeats 4000000
/-! Snd18: the check is right. -/
namespace Ev
open PySem PySem.Spec L2
/-- what stands among the built-ins -/
def isBlt : Blt → Bool
  | .factorial | .gcd | .lcm => false
  | _ => true
/-- a def of the text stands as the reading says -/
def DefOk (prog : Program) (w : World) (K : PySem.W.Frag) (mg : Str → Option Value) (fs : List Str) (cs : List (Str × D)) (im : List Blt) (i : Nat) (fn : Fn) : Prop :=
  ∃ (x : Str) (f : Addr) (fd : FuncData) (ps N : List Str) (nm qual : Str) (params : Arguments) (body : List Stmt) (scope : Scope), fs[i]? = some x ∧ mg x = some (.ref f) ∧ FunD K nm qual params body scope [] [] f fd ∧ Binds K fd ps [] ∧ FnScope N ps scope ∧ ps.length = fn.ps ∧ N.length = fn.ns ∧ chkSs fn.body ⟨N, scope, none, fs, cs, im⟩ body = true
structure PrgOk (prog : Program) (w : World) (K : PySem.W.Frag) (mg : Str → Option Value) (P : List Fn) (fs : List Str) (cs : List (Str × D)) (im : List Blt) : Prop where
  len : fs.length = P.length
  defs : ∀ i fn, nth P i = some fn → DefOk prog w K mg fs cs im i fn
  con : ∀ p, p ∈ cs → ∃ v u, mg p.1 = some u ∧ RelV v u ∧ ∀ μ H, Rep K μ H p.2 v
  blt : ∀ b, isBlt b = true → mg (bltN b) = none
  imp : ∀ b f, (im.any fun q => Nat.beq (bltIx q) (bltIx b)) = true → impN b = some f → mg (bltN b) = some (.builtin f)
  isi : mg "isinstance" = none
  ty : ∀ t, mg (Str.ofString (tyN t)) = none
structure CtxOk (P : List Fn) (c : Nat) (C : Ctx) (X : Cx) : Prop where
  N : X.N = C.N
  nd : C.N.Nodup
  sc : X.env.scope = C.sc
  kd : C.sc.kind = .function
  calm : X.calm = true
  fn : ∀ x, (match C.osc with | none => true | some s => decide (s.names.lookup x = some .cell)) = true → X.fn x = true
  room : Room c X.A
  pr : PrgOk X.prog X.w X.K X.mg P C.fs C.cs C.im
  po : PassesOwn (model X.prog X.w) X.A X.env X.xe
section
variable {P : List Fn} {c : Nat} {C : Ctx} {X : Cx}
theorem CtxOk.hu (k : CtxOk P c C X) : X.A.units + 200 < cLine := by
  have := k.room.un
  omega
theorem vis_ok (k : CtxOk P c C X) {i : Nat} {x : Str} (h : visB C i x = true) : X.N[i]? = some x ∧ Vis X.env.scope x ∧ (x == ("__debug__" : Str)) = false ∧ (x == ("__classdict__" : Str)) = false := by
  obtain ⟨h, h4⟩ := b_and h
  obtain ⟨h, h3⟩ := b_and h
  obtain ⟨h1, h2⟩ := b_and h
  refine ⟨by rw [k.N]; exact of_decide_eq_true h1, ?_, by simpa using h3, by simpa using h4⟩
  rw [k.sc]
  unfold Vis
  cases e : C.sc.names.lookup x with
  | none => rw [e] at h2; cases h2
  | some q =>
    rw [e] at h2
    cases q with
    | «local» => exact .inl rfl
    | cell => exact .inr (.inl rfl)
    | free => exact .inr (.inr rfl)
    | _ => cases h2
theorem loc_ok (k : CtxOk P c C X) {i : Nat} {x : Str} (h : locB C i x = true) : X.N[i]? = some x ∧ L2.Loc X.env.scope x ∧ (X.fn x = true ∨ X.env.scope.names.lookup x = some .local) := by
  obtain ⟨h1, h2⟩ := b_and h
  refine ⟨by rw [k.N]; exact of_decide_eq_true h1, ?_⟩
  rw [k.sc]
  unfold L2.Loc
  cases e : C.sc.names.lookup x with
  | none => rw [e] at h2; cases h2
  | some q =>
    rw [e] at h2
    cases q with
    | «local» => exact ⟨.inl rfl, .inr rfl⟩
    | cell =>
      refine ⟨.inr rfl, .inl (k.fn x ?_)⟩
      cases e2 : C.osc with
      | none => rfl
      | some s => rw [e2] at h2; exact h2
    | _ => cases h2
theorem gl_ok (k : CtxOk P c C X) {x : Str} (h : glB C x = true) : Gl X x := by
  unfold glB at h
  show X.env.scope.names.lookup x = some .globalImplicit
  rw [k.sc]
  cases e : C.sc.names.lookup x with
  | none => rw [e] at h; cases h
  | some q =>
    rw [e] at h
    cases q <;> first | rfl | cases h
/-! ### targets -/
theorem asg_cons {e : Expr} {es : List Expr} {env : PySem.Env} (h : nst e = true) : assignEach (e :: es) env = (false, assign e env) :: assignEach es env := by
  cases e <;> first | rfl | cases h
theorem asg_len {env : PySem.Env} : ∀ {t : T} {es : List Expr}, chkGs t C es = true → (assignEach es env).length = t.len ∧ (assignEach es env).findIdx? (·.1) = none
  | .nm _, _, h => by cases h
  | .nil, es, h => by
    cases es with
    | nil => exact ⟨rfl, rfl⟩
    | cons _ _ => cases h
  | .cons t r, es, h => by
    cases es with
    | nil => cases h
    | cons e es =>
      obtain ⟨h, h3⟩ := b_and (show (nst e && chkG t C e && chkGs r C es) = true from h)
      obtain ⟨h1, h2⟩ := b_and h
      obtain ⟨g1, g2⟩ := asg_len (env := env) h3
      rw [asg_cons h1]
      refine ⟨by rw [List.length_cons, g1]; rfl, ?_⟩
      rw [List.findIdx?_cons]
      simp [g2]
mutual
theorem g_ok (k : CtxOk P c C X) : ∀ (t : T) (x : Expr), chkG t C x = true → PG X x (gT X.K t)
  | .nm i, x, h => by
    cases x <;> first | (exact absurd h Bool.false_ne_true) | skip
    rename_i y p
    obtain ⟨h1, h2, h3⟩ := loc_ok k (show locB C i y = true from h)
    exact pg_name (by rw [k.N]; exact k.nd) h1 h2 h3
  | .nil, x, h => by
    cases x <;> first | (exact absurd h Bool.false_ne_true) | skip
    rename_i es kk p
    cases es with
    | nil => exact pg_tup k.calm pgs_nil
    | cons _ _ => cases h
  | .cons t r, x, h => by
    cases x <;> first | (exact absurd h Bool.false_ne_true) | skip
    rename_i es kk p
    have h : chkGs (.cons t r) C es = true := h
    obtain ⟨g1, g2⟩ := asg_len (env := X.env) h
    exact pg_tup k.calm (gs_ok k (.cons t r) es h) g1 g2
theorem gs_ok (k : CtxOk P c C X) : ∀ (t : T) (xs : List Expr), chkGs t C xs = true → PGs X xs (gTs X.K t)
  | .nm i, x, h => by cases h
  | .nil, xs, h => by
    cases xs with
    | nil => exact pgs_nil
    | cons _ _ => cases h
  | .cons t r, xs, h => by
    cases xs with
    | nil => cases h
    | cons e es =>
      obtain ⟨h, h3⟩ := b_and (show (nst e && chkG t C e && chkGs r C es) = true from h)
      obtain ⟨h1, h2⟩ := b_and h
      exact pgs_cons (g_ok k t e h2) (gs_ok k r es h3) (by rw [asg_cons h1]; rfl)
end
/-! ### a block's context -/
theorem CtxOk.blk (k : CtxOk P c C X) {scope : Scope} (hk : scope.kind = .function) (s : Shared) (H : Hp) (A : Addr) (cl : List (Str × Addr)) (fp : List Addr) : CtxOk P c (C.blk scope) (X.blk s H scope (compEnvC scope cl A X.env) fp) where
  N := k.N
  nd := k.nd
  sc := by
    show relS scope X.env.scope = relS scope C.sc
    rw [k.sc]
  kd := hk
  calm := k.calm
  fn := fun x h => by
    show (scope.names.lookup x == some .cell) = true
    rw [of_decide_eq_true (show decide (scope.names.lookup x = some .cell) = true from h)]
    rfl
  room := k.room
  pr := k.pr
  po := PassesOwn.never
end
end Ev
end

section
set_option Elab.async false
set_option linter.all false
set_option maxRecDepth 100000
set_option maxHeartbeats 8000000
/-! Snd19: the runner is right. -/
namespace Ev
open PySem PySem.Spec L2
structure Sound (P : List Fn) (n c : Nat) (C : Ctx) (X : Cx) : Prop where
  e : ∀ e x, chkE e C x = true → PE X x (tE X.K Z0 (ev P n c) e)
  k : ∀ e x, chkK e C x = true → PET X x (tE X.K Z0 (ev P n c) e)
  es : ∀ e xs, chkEs e C xs = true → PA X xs (tEs X.K Z0 (ev P n c) e)
  t : ∀ e x, chkT e C x = true → PT X x (tT X.K Z0 (ev P n c) e)
  i : ∀ e x, chkI e C x = true → ∀ tg, (prB e = true → ∃ es k p, tg = .Tuple es k p) → PI X tg x (tI X.K Z0 (ev P n c) e)
  s : ∀ s x, chkS s C x = true → PS X x (tS X.K Z0 (ev P n c) s)
  ss : ∀ s xs, chkSs s C xs = true → PSs X xs (tS X.K Z0 (ev P n c) s)
theorem not_b {b : Bool} (h : (!b) = true) : b = false := by simpa using h
theorem sound0 {P : List Fn} {c : Nat} {C : Ctx} {X : Cx} : Sound P 0 c C X where
  e := fun e x _ => ⟨fun pins s σ H Q I ⟨μ, env, st, hE, hS, h⟩ => h.elim⟩
  k := fun e x _ pins s σ H Q h0 I ⟨μ, env, st, hE, hS, h⟩ => h.elim
  es := fun e x _ => ⟨fun pos pins s σ H Q I ⟨μ, env, st, hE, hS, h⟩ => h.elim⟩
  t := fun e x _ => ⟨fun pins s σ H Q I ⟨μ, env, st, hE, hS, h⟩ => h.elim⟩
  i := fun e x _ tg _ => ⟨fun pins s σ H Q I ⟨μ, env, st, hE, hS, h⟩ => h.elim⟩
  s := fun s x _ => ⟨fun pins s σ H D I ⟨μ, env, st, hE, hS, h⟩ => h.elim⟩
  ss := fun s x _ => ⟨fun pins s σ H D I ⟨μ, env, st, hE, hS, h⟩ => h.elim⟩
/-- where calls go -/
def callee (P : List Fn) (n c : Nat) : Ev := match c with | 0 => Ev.none | c + 1 => ev P n c
theorem ev_succ (P : List Fn) (n c : Nat) : ev P (n + 1) c = step P n (ev P n c) (callee P n c) := by
  cases c <;> rfl
theorem pw_of {X : Cx} {op : BoolOp} {vs : List Expr} {pos : Pos} {t : TT} (h : PT X (.BoolOp op vs pos) t) : PW X (.BoolOp op vs pos) t := ⟨fun wh pins s σ H Q I q => h.run pins s σ H Q I q⟩
theorem new_len : ∀ (n : Nat) (ds : List D), (Env.new n ds).length = n
  | 0, _ => rfl
  | n + 1, [] => by show (Env.new n []).length + 1 = n + 1; rw [new_len n []]
  | n + 1, d :: ds => by show (Env.new n ds).length + 1 = n + 1; rw [new_len n ds]
theorem new_get : ∀ (n : Nat) (ds : List D) (i : Nat) (d : D), (Env.new n ds).get i = some d → ds[i]? = some d
  | 0, _, _, _, h => by cases h
  | n + 1, [], 0, _, h => by cases h
  | n + 1, [], i + 1, d, h => by
    have := new_get n [] i d h
    simp at this
  | n + 1, x :: ds, 0, d, h => by
    cases (show some x = some d from h)
    rfl
  | n + 1, x :: ds, i + 1, d, h => by
    have := new_get n ds i d h
    simpa using this
theorem env_new {K : PySem.W.Frag} {μ : List Addr} {H : Hp} {N : List Str} {ds : List D} {vs : List V} {n : Nat} (r : RepL K μ H ds vs) (hn : N.length = n) (hl : vs.length ≤ N.length) : EnvR K μ H (Env.new n ds) (L2.start N vs) := by
  refine ⟨?_, fun i d e => ?_⟩
  · rw [new_len]
    unfold L2.start
    rw [List.length_append, List.length_map, List.length_replicate]
    omega
  · obtain ⟨v, h1, h2⟩ := Pr.get (RepL.iff.mp r) (new_get _ _ _ _ e)
    refine ⟨v, ?_, h2⟩
    have hi := (List.getElem?_eq_some_iff.mp h1).1
    unfold L2.start
    rw [List.getElem?_append_left (by rw [List.length_map]; exact hi), List.getElem?_map, h1]
    rfl
theorem close0 (st : Sto) (f : Nat) : closeM st f 0 = 0 := by
  cases f with
  | zero => rfl
  | succ f => unfold closeM; rw [if_pos (by cases st <;> rfl)]
mutual
theorem top0 : ∀ {d : D}, D.low 0 d = true → D.top d = 0
  | .ref l, h => by simp [D.low] at h
  | .tup xs, h => topL0 (ds := xs) h
  | .non, _ => rfl
  | .bl _, _ => rfl
  | .int _, _ => rfl
  | .str _, _ => rfl
  | .fn _, _ => rfl
  | .rol _, _ => rfl
theorem topL0 : ∀ {ds : List D}, D.lowL 0 ds = true → D.topL ds = 0
  | [], _ => rfl
  | d :: ds, h => by
    have h : D.low 0 d = true ∧ D.lowL 0 ds = true := by simpa [D.lowL] using h
    show maxN (D.top d) (D.topL ds) = 0
    rw [top0 h.1, topL0 h.2]; rfl
end
theorem call0_eq (rc : Ev) (f : Fn) {ds : List D} (st : Sto) (h : D.lowL 0 ds = true) : call0 rc f ds st = callM (closeM st 30 (D.topL ds)) rc f ds st := by
  rw [topL0 h, close0]
  unfold callM
  rw [if_pos (by rw [h]; rfl)]
  rfl
theorem callF_eq {P : List Fn} {rc : Ev} {i : Nat} {fn : Fn} (hi : nth P i = some fn) (ds : List D) (st : Sto) : callF P rc i ds st = if (ds.length == fn.ps) = true then callM (closeM st 30 (D.topL ds)) rc fn ds st else .no := by
  unfold callF
  rw [hi]
  show (if (ds.length == fn.ps) = true then (if D.lowL 0 ds = true then call0 rc fn ds st else callM (closeM st 30 (D.topL ds)) rc fn ds st) else .no) = _
  by_cases h : D.lowL 0 ds = true
  · rw [if_pos h, call0_eq _ _ _ h]
  · rw [if_neg h]
theorem take_ok {K : PySem.W.Frag} {μ : List Addr} {H : Hp} {st : Sto} {n : Nat} (S : StR K μ H st) (hb : stBelow n (st.take n) = true) : StR K (μ.take n) H (st.take n) :=
  ⟨by rw [List.length_take, List.length_take, S.len], S.nd.sublist (List.take_sublist _ _), fun l a o e1 e2 => by
      have hl : l < n := by
        have := (List.getElem?_eq_some_iff.mp e1).1
        rw [List.length_take] at this
        omega
      have e1' := e1
      have e2' := e2
      rw [List.getElem?_take_of_lt hl] at e1' e2'
      exact low_obj (fun l a hl e => by rw [List.getElem?_take_of_lt hl]; exact e) (below_get hb e2) (S.ob l a o e1' e2')⟩
/-- a body's end -/
theorem body_post {K : PySem.W.Frag} {rc : Ev} {b : S} {env : Env} {st : Sto} {μ : List Addr} {H : Hp} {Q : VK} {B : D → Sto → Prop} {Zc : Exn → Sto → Prop} (h : (body rc b env st).pst B Zc) (k : ∀ d st1, B d st1 → ∀ μ' v H', Le μ H μ' H' → Rep K μ' H' d v → StR K μ' H' st1 → Q v H') (hz : ∀ x st, Zc x st → False) :
    (rc.s b env st).pst (fun o st' => PostS K μ H o st' { nx := fun _ H' => Q .non H', rt := Q }) (Z0 μ H) := by
  unfold body at h
  refine pst_mono (pst_bind h) (fun o st1 q => ?_) fun x st z => hz x st z
  cases o with
  | nx env1 => exact fun μ' σ' H' L hE' S' => k .non st1 q μ' .non H' L rfl S'
  | rt d => exact fun μ' v H' L r S' => k d st1 q μ' v H' L r S'
  | bk _ => exact q.elim
  | ct _ => exact q.elim
theorem body_ok {K : PySem.W.Frag} {P : List Fn} {rc : Ev} {i : Nat} {fn : Fn} {N : List Str} {vs : List V} {H : Hp} {Q : VK} {E : XK} (hi : nth P i = some fn) (hns : N.length = fn.ns) (hl : fn.ps ≤ N.length) (h : spF K P rc i vs H Q E) :
    tS K Z0 rc fn.body { nx := fun _ H' => Q .non H', rt := Q } (L2.start N vs) H := by
  obtain ⟨⟨f', hf, hlen⟩, μ, ds, st, S, rl, h⟩ := h
  rw [hi] at hf
  cases hf
  rw [callF_eq hi] at h
  obtain ⟨_, h⟩ := pst_ite h
  generalize closeM st 30 (D.topL ds) = m at h
  unfold callM at h
  by_cases hlow : (D.lowL m ds && stBelow m (st.take m) && Nat.ble m (slen st)) = true
  · rw [if_pos hlow] at h
    obtain ⟨hlow, hm⟩ := b_and hlow
    obtain ⟨hlow, hb⟩ := b_and hlow
    have hm : m ≤ st.length := by rw [← slen_eq]; exact Nat.le_of_ble_eq_true hm
    refine ⟨μ.take m, Env.new fn.ns ds, st.take m, env_new (low_repL (fun l a hl e => by rw [List.getElem?_take_of_lt hl]; exact e) hlow rl) hns (by omega), take_ok S hb, ?_⟩
    refine body_post (Zc := fun _ _ => False) (B := fun d st1 => ∃ d2 st2 d3 st3, fin m d st1 = .ok d2 st2 ∧ lay m d2 st2 st = .ok d3 st3 ∧ Post K μ H d3 st3 Q) ?_ ?_ fun _ _ z => z
    · cases eb : body rc fn.body (Env.new fn.ns ds) (st.take m) with
      | no => rw [eb] at h; exact h
      | ex x st1 =>
        rw [eb] at h
        have h : (if D.lowL 0 x.fs = true then R.ex x st else .no).pst (fun d st' => Post K μ H d st' Q) (Z0 μ H) := h
        exact (pst_ite h).2
      | ok d st1 =>
        rw [eb] at h
        show ∃ d2 st2 d3 st3, fin m d st1 = .ok d2 st2 ∧ lay m d2 st2 st = .ok d3 st3 ∧ Post K μ H d3 st3 Q
        have h : (match fin m d st1 with | .ok d st1 => lay m d st1 st | .ex x _ => if D.lowL 0 x.fs = true then R.ex x st else .no | .no => .no).pst (fun d st' => Post K μ H d st' Q) (Z0 μ H) := h
        cases ef : fin m d st1 with
        | no => rw [ef] at h; exact h.elim
        | ex x st2 =>
          rw [ef] at h
          exact (pst_ite (show (if D.lowL 0 x.fs = true then R.ex x st else .no).pst (fun d st' => Post K μ H d st' Q) (Z0 μ H) from h)).2.elim
        | ok d2 st2 =>
          rw [ef] at h
          have h : (lay m d2 st2 st).pst (fun d st' => Post K μ H d st' Q) (Z0 μ H) := h
          cases el : lay m d2 st2 st with
          | no => rw [el] at h; exact h.elim
          | ex x st3 => rw [el] at h; exact h.elim
          | ok d3 st3 => rw [el] at h; exact ⟨d2, st2, d3, st3, rfl, el, h⟩
    · rintro d st1 ⟨d2, st2, d3, st3, ef, el, p⟩ μ' v H' L r S'
      obtain ⟨μ2, L2, r2, S2⟩ := fin_ok ef L (by rw [List.length_take, S.len]; omega) S' r
      obtain ⟨μ3, L3, r3, S3⟩ := lay_ok el hm L2 S S2 r2
      exact p μ3 v H' L3 r3 S3
  · rw [if_neg hlow] at h
    refine ⟨μ, Env.new fn.ns ds, st, env_new rl hns (by omega), S, ?_⟩
    refine body_post (Zc := fun _ _ => False) (B := fun d st1 => ∃ d2 st2, fin (slen st) d st1 = .ok d2 st2 ∧ Post K μ H d2 st2 Q) ?_ ?_ fun _ _ z => z
    · refine pst_mono (pst_bind h) (fun d st1 q => ?_) fun _ _ z => z
      cases ef : fin (slen st) d st1 with
      | no => rw [ef] at q; exact q.elim
      | ex x st2 => rw [ef] at q; exact q.elim
      | ok d2 st2 => rw [ef] at q; exact ⟨d2, st2, rfl, q⟩
    · rintro d st1 ⟨d2, st2, ef, p⟩ μ' v H' L r S'
      obtain ⟨μ2, L2, r2, S2⟩ := fin_ok ef L (by rw [slen_eq, S.len]) S' r
      exact p μ2 v H' L2 r2 S2
section
variable {P : List Fn} {n c : Nat} {C : Ctx} {X : Cx}
theorem ok_bind {α β : Type} {r : R α} {f : α → Sto → R β} {x : β} {st : Sto} (h : r.bind f = .ok x st) : ∃ y st1, f y st1 = .ok x st := by
  cases r with
  | no => cases h
  | ex _ _ => cases h
  | ok y st1 => exact ⟨y, st1, h⟩
theorem itOf_pr {d : D} {st : Sto} {it : Ev.It} (h : itOf d st = some it) : it.pr = false := by
  cases d with
  | tup _ => cases h; rfl
  | str _ => cases h; rfl
  | rol _ => cases h; rfl
  | ref l =>
    simp only [itOf] at h
    cases e : sget st l with
    | none => rw [e] at h; cases h
    | some o =>
      rw [e] at h
      cases o <;> first | (cases h; rfl) | cases h
  | _ => cases h
theorem pr_ok {a : E} (h : prB a = false) : ∀ env st it st', (ev P n c).i a env st = .ok it st' → it.pr = false := by
  intro env st it st' e
  cases n with
  | zero => cases e
  | succ n =>
    rw [ev_succ] at e
    cases a <;> first | (cases e; done) | skip
    · rename_i a
      obtain ⟨d, st1, e⟩ := ok_bind (show ((ev P n c).e a env st).bind (fun d st => okO st (itOf d st)) = .ok it st' from e)
      cases e2 : itOf d st1 with
      | none => rw [e2] at e; cases e
      | some it2 =>
        rw [e2] at e
        cases e
        exact itOf_pr e2
    · rename_i b es
      cases b <;> first | (exact absurd (show true = false from h) (by decide)) | (cases e; done) | skip
      · obtain ⟨xs, st1, e⟩ := ok_bind (show (rngR (ev P n c).e es env st).bind (fun xs st => R.ok (⟨xs, [], false⟩ : Ev.It) st) = .ok it st' from e)
        cases e
        rfl
      · have e : (match asRng (oneE es) with
          | some as => (rngR (ev P n c).e as env st).bind fun xs st => R.ok (⟨xs.reverse, [], false⟩ : Ev.It) st
          | none => .no) = .ok it st' := e
        cases e2 : asRng (oneE es) with
        | none => rw [e2] at e; cases e
        | some as =>
          rw [e2] at e
          obtain ⟨xs, st1, e⟩ := ok_bind e
          cases e
          rfl
    · rename_i m o es
      cases m <;> first | (exact absurd (show true = false from h) (by decide)) | (cases e; done) | skip
      cases es <;> first | (cases e; done) | skip
      obtain ⟨d, st1, e⟩ := ok_bind (show ((ev P n c).e o env st).bind (fun x st => (match x with | .ref l => (match sget st l with | some (.lck kvs) => R.ok (⟨kvs.map (fun (p : D × D) => p.2), [], false⟩ : Ev.It) st | _ => .no) | _ => .no)) = .ok it st' from e)
      cases d with
      | ref l =>
        have e : (match sget st1 l with | some (.lck kvs) => R.ok (⟨kvs.map (fun (p : D × D) => p.2), [], false⟩ : Ev.It) st1 | _ => .no) = .ok it st' := e
        cases e2 : sget st1 l with
        | none => rw [e2] at e; cases e
        | some o =>
          rw [e2] at e
          cases o <;> first | (cases e; rfl) | cases e
      | _ => cases e
/-- a def's promise -/
theorem def_ok {i : Nat} {fn : Fn} {fs : List Str} {cs : List (Str × D)} {im : List Blt} {prog : Program} {w : World} {K : PySem.W.Frag} {mg : Str → Option Value} {base : Heap} (pr : PrgOk prog w K mg P fs cs im) (hi : nth P i = some fn)
    (ih : ∀ c', c = c' + 1 → ∀ (C : Ctx) (X : Cx), CtxOk P c' C X → Sound P n c' C X) :
    ∃ (x : Str) (f : Addr) (fd : FuncData) (ps : List Str), fs[i]? = some x ∧ mg x = some (.ref f) ∧ PySem.W.keepIn K (.ref f) = true ∧ Binds K fd ps [] ∧ FnOk prog w K mg base CX0 c f fd ps (spF K P (callee P n c) i) := by
  obtain ⟨x, f, fd, ps, N, nm, qual, params, body, scope, h1, h2, F, hb, S, hps, hns, hck⟩ := pr.defs i fn hi
  refine ⟨x, f, fd, ps, h1, h2, F.kp, hb, ?_⟩
  have len : ∀ (vs : List V) (H : Hp) (Q : VK) (E : XK), spF K P (callee P n c) i vs H Q E → vs.length = ps.length := fun vs H Q E ⟨⟨f', hf, hl⟩, _⟩ => by
    rw [hi] at hf
    cases hf
    rw [hl, hps]
  cases c with
  | zero =>
    have no : ∀ (vs : List V) (H : Hp) (Q : VK) (E : XK), ¬ spF K P (callee P n 0) i vs H Q E := fun vs H Q E ⟨_, μ, ds, st, S, rl, h⟩ => by
      rw [show callee P n 0 = Ev.none from rfl, callF_eq hi] at h
      obtain ⟨_, h⟩ := pst_ite h
      generalize closeM st 30 (D.topL ds) = m at h
      unfold callM at h
      by_cases hlow : (D.lowL m ds && stBelow m (st.take m) && Nat.ble m (slen st)) = true
      · rw [if_pos hlow] at h
        exact h.elim
      · rw [if_neg hlow] at h
        exact h.elim
    exact ⟨len, fun A outer s H args us vs Q E hr he hb hv hs => absurd hs (no vs H Q E)⟩
  | succ c' =>
    refine F.ok S len fun cdv A outer s H vs Q E hr hsp => ?_
    have k : CtxOk P c' ⟨N, scope, none, fs, cs, im⟩ (cxOf CX0 prog w K mg base N qual scope f cdv A outer s H E) := ⟨rfl, S.nd, rfl, S.kind, rfl, fun _ _ => rfl, hr, pr, PassesOwn.leaving⟩
    have hpl : ps.length ≤ N.length := by
      have := congrArg List.length S.pre
      rw [List.length_take] at this
      omega
    exact ⟨tS K Z0 (ev P n c') fn.body, (ih c' rfl _ _ k).ss fn.body body hck, body_ok hi hns (by omega) hsp⟩
end
end Ev
end

section
set_option Elab.async false
set_option linter.all false
set_option maxRecDepth 100000
set_option maxHeartbeats 16000000
/-! Snd20: the runner is right: expressions. -/
namespace Ev
open PySem PySem.Spec L2
section
variable {P : List Fn} {n c : Nat} {C : Ctx} {X : Cx}
theorem nd (k : CtxOk P c C X) : X.N.Nodup := by
  rw [k.N]
  exact k.nd
theorem comp_set {x : Expr} (h : isComp x = false) : ∀ (env : PySem.Env) (v : Value), foldedSetIterable x env v = pure v := by
  intro env v
  cases x <;> first | rfl | cases h
theorem sl_plain {x : Expr} (h : noSlice x = true) : PlainIx x := by
  intro o i
  cases x <;> first | rfl | cases h
theorem own_map (C : Ctx) (vs : List Nat) : (ownOf C vs).map (·.2) = vs := by
  unfold ownOf
  rw [List.map_map]
  exact List.map_id vs
/-- a built-in's name here -/
theorem opt_cases {α : Type} {o : Option α} : o.isSome = true ∨ o.isSome = false := by cases o <;> simp
/-- all that a comprehension asks -/
theorem lc_parts (k : CtxOk P c C X) (sd : ∀ (C : Ctx) (X : Cx), CtxOk P c C X → Sound P n c C X) {vs : List Nat} {t : T} {it cc e : E} {tg iter elt : Expr} {ifs : List Expr} {scope : Scope} (hok : blkC C.N C.sc scope (ownOf C vs) = true) (hw : t.wf = true) (hsl : (t.slots.all fun j => decide (j ∈ vs)) = true)
    (hg : chkG t (C.blk scope) tg = true) (hi : chkI it C iter = true) (hc : isComp iter = false) (hp : (!prB it || !t.isNm) = true)
    (hf : (match ifs with | [] => (match cc with | .none => true | _ => false) | i :: is => (match is with | [] => chkT cc (C.blk scope) i | _ :: _ => false)) = true) (he : chkE e (C.blk scope) elt = true) :
    BlkOk X.N X.env.scope scope (ownOf C vs) ∧ (∀ j ∈ t.slots, j ∈ (ownOf C vs).map (·.2)) ∧ (t.isNm = false ∨ ∀ env st it' st', (ev P n c).i it env st = .ok it' st' → it'.pr = false) ∧ PI X tg iter (tI X.K Z0 (ev P n c) it) ∧
      (∀ (s : Shared) (H : Hp) (A : Addr) (cl : List (Str × Addr)) (fp : List Addr), PG (X.blk s H scope (compEnvC scope cl A X.env) fp) tg (gT X.K t)) ∧
      (∀ (s : Shared) (H : Hp) (A : Addr) (cl : List (Str × Addr)) (fp : List Addr), PTs (X.blk s H scope (compEnvC scope cl A X.env) fp) ifs (tT X.K Z0 (ev P n c) cc)) ∧
      (∀ (s : Shared) (H : Hp) (A : Addr) (cl : List (Str × Addr)) (fp : List Addr), PE (X.blk s H scope (compEnvC scope cl A X.env) fp) elt (tE X.K Z0 (ev P n c) e)) := by
  have ok : BlkOk X.N X.env.scope scope (ownOf C vs) := by
    rw [k.N, k.sc]
    exact blkOk_by hok
  have kb := fun s H A cl fp => k.blk ok.kind s H A cl fp
  have tgt : prB it = true → ∃ es kk p, tg = .Tuple es kk p := fun hpr => by
    have hnm : t.isNm = false := by
      rw [hpr] at hp
      simpa using hp
    cases t with
    | nm _ => cases hnm
    | nil => cases tg <;> first | (exact absurd hg Bool.false_ne_true) | exact ⟨_, _, _, rfl⟩
    | cons _ _ => cases tg <;> first | (exact absurd hg Bool.false_ne_true) | exact ⟨_, _, _, rfl⟩
  refine ⟨ok, fun j hj => ?_, ?_, (sd C X k).i it iter hi tg tgt, fun s H A cl fp => g_ok (kb s H A cl fp) t tg hg, fun s H A cl fp => ?_, fun s H A cl fp => (sd _ _ (kb s H A cl fp)).e e elt he⟩
  · rw [own_map]
    exact of_decide_eq_true (List.all_eq_true.mp hsl j hj)
  · cases hb : prB it with
    | true =>
      rw [hb] at hp
      exact .inl (by simpa using hp)
    | false => exact .inr (pr_ok hb)
  · cases ifs with
    | nil =>
      cases cc <;> first | (exact absurd hf Bool.false_ne_true) | skip
      refine pts_none (X := X) fun env st => ?_
      cases n with
      | zero => exact .inr rfl
      | succ n =>
        rw [ev_succ]
        exact .inl rfl
    | cons i is =>
      cases is with
      | nil => exact pts_one ((sd _ _ (kb s H A cl fp)).t cc i hf)
      | cons _ _ => cases hf
theorem chkR_ok {es : E} {args : List Expr} (h : chkR es C args = true) : ∃ as args2 p2 pos2, es = .cons (.blt .range as) .nil ∧ args = [.Call (.Name "range" p2) args2 [] pos2] ∧ glB C "range" = true ∧ chkEs as C args2 = true ∧ twoE as = true := by
  cases es <;> first | (exact absurd h Bool.false_ne_true) | skip
  rename_i e q
  cases q <;> first | (exact absurd h Bool.false_ne_true) | skip
  cases e <;> first | (exact absurd h Bool.false_ne_true) | skip
  rename_i b as
  cases b <;> first | (exact absurd h Bool.false_ne_true) | skip
  match args, h with
  | [], h => exact absurd h Bool.false_ne_true
  | _ :: _ :: _, h => exact absurd h Bool.false_ne_true
  | [x], h =>
    cases x <;> first | (exact absurd h Bool.false_ne_true) | skip
    rename_i f args2 kws p
    cases f <;> first | (exact absurd h Bool.false_ne_true) | skip
    rename_i z p2
    cases kws <;> first | (exact absurd h Bool.false_ne_true) | skip
    obtain ⟨h, h4⟩ := b_and (show (decide (z = "range") && glB C z && chkEs as C args2 && twoE as) = true from h)
    obtain ⟨h, h3⟩ := b_and h
    obtain ⟨h1, h2⟩ := b_and h
    cases of_decide_eq_true h1
    exact ⟨as, args2, _, _, rfl, rfl, h2, h3, h4⟩
theorem args12 {r : Ev} {as : E} {args : List Expr} (S : ∀ e x, chkE e C x = true → PE X x (tE X.K Z0 r e)) (h : chkEs as C args = true) (h2 : twoE as = true) :
    (∃ a xa, as = .cons a .nil ∧ args = [xa] ∧ PE X xa (tE X.K Z0 r a) ∧ nst xa = true) ∨ ∃ a b xa xb, as = .cons a (.cons b .nil) ∧ args = [xa, xb] ∧ PE X xa (tE X.K Z0 r a) ∧ PE X xb (tE X.K Z0 r b) ∧ nst xa = true ∧ nst xb = true := by
  cases as <;> first | (exact absurd h2 Bool.false_ne_true) | skip
  rename_i a q
  cases args with
  | nil => exact absurd h Bool.false_ne_true
  | cons xa xs =>
    obtain ⟨h, h5⟩ := b_and (show (nst xa && chkE a C xa && chkEs q C xs) = true from h)
    obtain ⟨h3, h4⟩ := b_and h
    cases q <;> first | (exact absurd h2 Bool.false_ne_true) | skip
    · cases xs with
      | nil => exact .inl ⟨a, xa, rfl, rfl, S _ _ h4, h3⟩
      | cons _ _ => exact absurd h5 Bool.false_ne_true
    · rename_i b q'
      cases xs with
      | nil => exact absurd h5 Bool.false_ne_true
      | cons xb xs =>
        obtain ⟨h, h8⟩ := b_and (show (nst xb && chkE b C xb && chkEs q' C xs) = true from h5)
        obtain ⟨h6, h7⟩ := b_and h
        cases q' <;> first | (exact absurd h2 Bool.false_ne_true) | skip
        cases xs with
        | nil => exact .inr ⟨a, b, xa, xb, rfl, rfl, S _ _ h4, S _ _ h7, h3, h6⟩
        | cons _ _ => exact absurd h8 Bool.false_ne_true
theorem tgt_of {t : T} {it : E} {C' : Ctx} {tg : Expr} (hp : (!prB it || !t.isNm) = true) (hg : chkG t C' tg = true) : prB it = true → ∃ es kk p, tg = .Tuple es kk p := fun hpr => by
  have hnm : t.isNm = false := by
    rw [hpr] at hp
    simpa using hp
  cases t with
  | nm _ => cases hnm
  | nil => cases tg <;> first | (exact absurd hg Bool.false_ne_true) | exact ⟨_, _, _, rfl⟩
  | cons _ _ => cases tg <;> first | (exact absurd hg Bool.false_ne_true) | exact ⟨_, _, _, rfl⟩
theorem nm_or {t : T} {it : E} (hp : (!prB it || !t.isNm) = true) : t.isNm = false ∨ ∀ env st it' st', (ev P n c).i it env st = .ok it' st' → it'.pr = false := by
  cases hb : prB it with
  | true =>
    rw [hb] at hp
    exact .inl (by simpa using hp)
  | false => exact .inr (pr_ok hb)
theorem ifs_ok (k : CtxOk P c C X) (sd : ∀ (C : Ctx) (X : Cx), CtxOk P c C X → Sound P n c C X) {cc : E} {ifs : List Expr} (hf : (match ifs with | [] => (match cc with | .none => true | _ => false) | i :: is => (match is with | [] => chkT cc C i | _ :: _ => false)) = true) : PTs X ifs (tT X.K Z0 (ev P n c) cc) := by
  cases ifs with
  | nil =>
    cases cc <;> first | (exact absurd hf Bool.false_ne_true) | skip
    refine pts_none (X := X) fun env st => ?_
    cases n with
    | zero => exact .inr rfl
    | succ n =>
      rw [ev_succ]
      exact .inl rfl
  | cons i is =>
    cases is with
    | nil => exact pts_one ((sd C X k).t cc i hf)
    | cons _ _ => cases hf
theorem e_ok (k : CtxOk P c C X) (ih : ∀ m, m ≤ n → ∀ (c : Nat) (C : Ctx) (X : Cx), CtxOk P c C X → Sound P m c C X) : ∀ e x, chkE e C x = true → PE X x (tE X.K Z0 (ev P (n + 1) c) e) := by
  have sd := ih n (Nat.le_refl n) c
  have S := sd C X k
  have hz := z0_mono
  have hu := k.hu
  intro e x h
  rw [ev_succ]
  cases e <;> first | (exact absurd h Bool.false_ne_true) | skip
  case var i =>
    cases x <;> first | (exact absurd h Bool.false_ne_true) | skip
    obtain ⟨h1, h2, h3, h4⟩ := vis_ok k h
    exact e_var h1 h2 h3 h4
  case cst d =>
    cases x <;> first | (exact absurd h Bool.false_ne_true) | skip
    exact e_cst h
  case glb y d =>
    cases x <;> first | (exact absurd h Bool.false_ne_true) | skip
    rename_i z p
    obtain ⟨h, h4⟩ := b_and (show (decide (y = z) && glB C z && !(z == ("__debug__" : Str)) && C.cs.any fun p => decide (p.1 = z) && D.beq p.2 d) = true from h)
    obtain ⟨h, h3⟩ := b_and h
    obtain ⟨h1, h2⟩ := b_and h
    obtain ⟨q, hq, h5⟩ := List.any_eq_true.mp h4
    obtain ⟨h5, h6⟩ := b_and h5
    obtain ⟨v, u, g1, g2, g3⟩ := k.pr.con q hq
    rw [of_decide_eq_true h5] at g1
    have g3' := g3
    rw [beq_eq h6] at g3'
    exact impE (pe_glob (gl_ok k h2) g1 g2 (not_b h3)) fun σ H Q ⟨μ, env, st, hE, hS, hh⟩ => (show Post X.K μ H d st Q from hh) μ v H .refl (g3' μ H) hS
  case bin o a b =>
    cases x <;> first | (exact absurd h Bool.false_ne_true) | skip
    rename_i l op r p
    obtain ⟨h, h3⟩ := b_and (show (decide (op = pyB o) && chkE a C l && (chkE b C r || (isStrC a && chkK b C r))) = true from h)
    obtain ⟨h1, h2⟩ := b_and h
    cases of_decide_eq_true h1
    rw [Bool.or_eq_true] at h3
    rcases h3 with h3 | h3
    · exact e_bin hz (S.e a l h2) (S.e b r h3)
    · obtain ⟨h5, h4⟩ := b_and h3
      clear h3 h
      cases a with
      | cst d =>
        cases d with
        | str y =>
          cases l with
          | Constant kk j q =>
            cases kk with
            | str z =>
              cases of_decide_eq_true (show decide (y = z) = true from h2)
              refine e_binT hz (fun env st => ?_) (S.k b r h4)
              cases n with
              | zero => exact .inr rfl
              | succ n =>
                rw [ev_succ]
                exact .inl rfl
            | _ => cases h2
          | _ => cases h2
        | _ => cases h5
      | _ => cases h5
  case neg a =>
    cases x <;> first | (exact absurd h Bool.false_ne_true) | skip
    obtain ⟨h1, h2⟩ := b_and h
    cases of_decide_eq_true h1
    exact e_neg hz (S.e _ _ h2)
  case cmp o a b =>
    cases x <;> first | (exact absurd h Bool.false_ne_true) | skip
    rename_i l ops rs p
    match ops, rs, h with
    | [], _, h => cases h
    | [op], [], h => cases h
    | [op], [r], h =>
      obtain ⟨h, h4⟩ := b_and (show (decide (op = pyC o) && chkE a C l && chkE b C r && !behindInMarks (pyC o) r) = true from h)
      obtain ⟨h, h3⟩ := b_and h
      obtain ⟨h1, h2⟩ := b_and h
      cases of_decide_eq_true h1
      exact e_cmp hu hz (S.e _ _ h2) (S.e _ _ h3) (not_b h4)
    | [op], _ :: _ :: _, h => cases h
    | _ :: _ :: _, _, h => cases h
  case cmp2 o p a b cc =>
    cases x <;> first | (exact absurd h Bool.false_ne_true) | skip
    rename_i l ops rs q
    match ops, rs, h with
    | [], _, h => cases h
    | [_], _, h => cases h
    | [op, op2], [], h => cases h
    | [op, op2], [_], h => cases h
    | [op, op2], [r, r2], h =>
      obtain ⟨h, h6⟩ := b_and (show (decide (op = pyC o) && decide (op2 = pyC p) && chkE a C l && chkE b C r && chkE cc C r2 && !lastMarks [pyC o, pyC p] [r, r2]) = true from h)
      obtain ⟨h, h5⟩ := b_and h
      obtain ⟨h, h4⟩ := b_and h
      obtain ⟨h, h3⟩ := b_and h
      obtain ⟨h1, h2⟩ := b_and h
      cases of_decide_eq_true h1
      cases of_decide_eq_true h2
      exact e_cmp2 hu hz (S.e _ _ h3) (S.e _ _ h4) (S.e _ _ h5) (not_b h6)
    | [op, op2], _ :: _ :: _ :: _, h => cases h
    | _ :: _ :: _ :: _, _, h => cases h
  case and a b =>
    cases x <;> first | (exact absurd h Bool.false_ne_true) | skip
    rename_i op vs p
    match vs, h with
    | [], h => exact absurd (b_and (show (_ && false) = true from h)).2 Bool.false_ne_true
    | [_], h => exact absurd (b_and (show (_ && false) = true from h)).2 Bool.false_ne_true
    | y :: z :: rest, h =>
      obtain ⟨h1, h⟩ := b_and h
      obtain ⟨h2, h3⟩ := b_and h
      cases of_decide_eq_true h1
      cases rest with
      | nil => exact e_and hz (S.e _ _ h2) (pe_one (S.e _ _ h3))
      | cons _ _ => exact e_and hz (S.e _ _ h2) (S.e _ _ h3)
  case or a b =>
    cases x <;> first | (exact absurd h Bool.false_ne_true) | skip
    rename_i op vs p
    match vs, h with
    | [], h => exact absurd (b_and (show (_ && false) = true from h)).2 Bool.false_ne_true
    | [_], h => exact absurd (b_and (show (_ && false) = true from h)).2 Bool.false_ne_true
    | y :: z :: rest, h =>
      obtain ⟨h1, h⟩ := b_and h
      obtain ⟨h2, h3⟩ := b_and h
      cases of_decide_eq_true h1
      cases rest with
      | nil => exact e_or hz (S.e _ _ h2) (pe_one (S.e _ _ h3))
      | cons _ _ => exact e_or hz (S.e _ _ h2) (S.e _ _ h3)
  case not a =>
    cases x <;> first | (exact absurd h Bool.false_ne_true) | skip
    obtain ⟨h1, h2⟩ := b_and h
    cases of_decide_eq_true h1
    exact e_not hz (S.e _ _ h2)
  case ifx cc a b =>
    cases x <;> first | (exact absurd h Bool.false_ne_true) | skip
    obtain ⟨h, h3⟩ := b_and h
    obtain ⟨h1, h2⟩ := b_and h
    exact e_ifx hz (S.t _ _ h1) (S.e _ _ h2) (S.e _ _ h3)
  case tup es =>
    cases x <;> first | (exact absurd h Bool.false_ne_true) | skip
    exact e_tup hz (S.es _ _ h)
  case lst es =>
    cases x <;> first | (exact absurd h Bool.false_ne_true) | skip
    exact e_lst hz (S.es _ _ h)
  case idx a i =>
    cases x <;> first | (exact absurd h Bool.false_ne_true) | skip
    obtain ⟨h, h3⟩ := b_and h
    obtain ⟨h1, h2⟩ := b_and h
    exact e_idx hu hz (S.e _ _ h1) (S.e _ _ h2) (sl_plain h3)
  case slc a lo hi =>
    cases x <;> first | (exact absurd h Bool.false_ne_true) | skip
    rename_i v s p
    cases s <;> first | (exact absurd h Bool.false_ne_true) | skip
    rename_i l hh st q
    cases st <;> first | (exact absurd h Bool.false_ne_true) | skip
    obtain ⟨h, h3⟩ := b_and h
    obtain ⟨h1, h2⟩ := b_and h
    have part : ∀ {l : Option Expr} {lo : E}, (match l with | none => (match lo with | .none => true | _ => false) | some y => chkE lo C y) = true → PO X l (tO X.K Z0 (ev P n c) lo) := fun {l lo} h => by
      cases l with
      | none =>
        cases lo <;> first | (exact absurd h Bool.false_ne_true) | skip
        exact o_none
      | some y => exact o_some hz (S.e _ _ h) (fun z => by rw [z] at h; exact absurd (show false = true from h) Bool.false_ne_true)
    exact e_slc hz (S.e _ _ h1) (part h2) (part h3)
  case rev a =>
    cases x <;> first | (exact absurd h Bool.false_ne_true) | skip
    rename_i v s p
    cases s <;> first | (exact absurd h Bool.false_ne_true) | skip
    rename_i l hh st q
    cases l <;> first | (exact absurd h Bool.false_ne_true) | skip
    cases hh <;> first | (exact absurd h Bool.false_ne_true) | skip
    cases st <;> first | (exact absurd h Bool.false_ne_true) | skip
    rename_i y
    cases y <;> first | (exact absurd h Bool.false_ne_true) | skip
    rename_i op kk p2
    cases kk <;> first | (exact absurd h Bool.false_ne_true) | skip
    obtain ⟨h, h3⟩ := b_and h
    obtain ⟨h1, h2⟩ := b_and h
    cases of_decide_eq_true h1
    cases of_decide_eq_true h2
    exact e_rev hz (S.e _ _ h3)
  case call i es =>
    cases x <;> first | (exact absurd h Bool.false_ne_true) | skip
    rename_i f args kws p
    cases f <;> first | (exact absurd h Bool.false_ne_true) | skip
    rename_i y p2
    cases kws <;> first | (exact absurd h Bool.false_ne_true) | skip
    obtain ⟨h, h5⟩ := b_and (show (decide (C.fs[i]? = some y) && glB C y && !(y == ("__debug__" : Str)) && chkEs es C args && nsts args) = true from h)
    obtain ⟨h, h4⟩ := b_and h
    obtain ⟨h, h3⟩ := b_and h
    obtain ⟨h1, h2⟩ := b_and h
    have h1 := of_decide_eq_true h1
    cases hi : nth P i with
    | none =>
      exfalso
      rw [nth_eq] at hi
      have g1 := List.getElem?_eq_none_iff.mp hi
      have g2 := (List.getElem?_eq_some_iff.mp h1).1
      have g3 := k.pr.len
      omega
    | some fn =>
      obtain ⟨x, f, fd, ps, g1, g2, g3, g4, F⟩ := def_ok (base := X.base) k.pr hi (fun c' e C X kk => ih n (Nat.le_refl n) c' C X kk)
      rw [h1] at g1
      cases g1
      cases args with
      | nil =>
        cases es <;> first | (exact absurd h4 Bool.false_ne_true) | skip
        refine e_call0 F k.room (gl_ok k h2) g2 g3 g4 hi (fun env st => ?_) (not_b h3)
        cases n with
        | zero => exact .inr rfl
        | succ n =>
          rw [ev_succ]
          exact .inl rfl
      | cons a as => exact e_call F k.room (gl_ok k h2) g2 g3 g4 hi (S.es _ _ h4) h5 (not_b h3)
  case blt b es =>
    cases x <;> first | (exact absurd h Bool.false_ne_true) | skip
    rename_i f args kws p
    cases f <;> first | (exact absurd h Bool.false_ne_true) | skip
    rename_i y p2
    cases kws <;> first | (exact absurd h Bool.false_ne_true) | skip
    obtain ⟨h, h8⟩ := b_and h
    obtain ⟨h, h7⟩ := b_and h
    obtain ⟨h, h6⟩ := b_and h
    obtain ⟨h1, h2⟩ := b_and h
    cases of_decide_eq_true h1
    rw [Bool.or_eq_true] at h8
    rcases h8 with h8 | h8
    · obtain ⟨h8, h5⟩ := b_and h8
      obtain ⟨h3, h4⟩ := b_and h8
      have hr : asRng (oneE es) = none := by
        cases e : asRng (oneE es) with
        | none => rfl
        | some _ => rw [e] at h4; cases h4
      cases args with
      | nil => cases h7
      | cons a as =>
        rw [Bool.or_eq_true] at h3
        rcases h3 with h3 | h3
        · rw [Bool.or_eq_true] at h3
          exact e_blt k.calm hu hz h3 hr (gl_ok k h2) (k.pr.blt b (by rcases h3 with h3 | h3 <;> cases b <;> first | rfl | cases h3)) (S.es _ _ h5) h6
        · obtain ⟨q1, q2⟩ := b_and h3
          cases e : impN b with
          | none => rw [e] at q1; cases q1
          | some f => exact e_imp hz e hr (gl_ok k h2) (k.pr.imp b f q2 e) (S.es _ _ h5) h6
    · obtain ⟨h3, h4⟩ := b_and h8
      obtain ⟨as, args2, p3, p4, rfl, rfl, hg2, h9, h10⟩ := chkR_ok h4
      have two := args12 (fun e x he => S.e e x he) h9 h10
      cases b <;> first | (exact absurd h3 Bool.false_ne_true) | skip
      · exact e_tupR k.calm hz (gl_ok k h2) (k.pr.blt .tuple rfl) (gl_ok k hg2) (k.pr.blt .range rfl) two
      · exact e_listR k.calm hz (gl_ok k h2) (k.pr.blt .list rfl) (gl_ok k hg2) (k.pr.blt .range rfl) two
  case mth m o es =>
    cases x <;> first | (exact absurd h Bool.false_ne_true) | skip
    rename_i f args kws p
    cases f <;> first | (exact absurd h Bool.false_ne_true) | skip
    rename_i v y ap
    cases kws <;> first | (exact absurd h Bool.false_ne_true) | skip
    obtain ⟨h, h7⟩ := b_and (show (decide (y = mthN m) && chkE o C v && chkEs es C args && nsts args && nsup v && (ap.endLine == p.line) && Nat.blt args.length 29) = true from h)
    obtain ⟨h, h6⟩ := b_and h
    obtain ⟨h, h5⟩ := b_and h
    obtain ⟨h, h4⟩ := b_and h
    obtain ⟨h, h3⟩ := b_and h
    obtain ⟨h1, h2⟩ := b_and h
    cases of_decide_eq_true h1
    exact e_mth hu hz (S.e _ _ h2) (S.es _ _ h3) h4 h5 h6 (Nat.blt_eq.mp h7)
  case dic b =>
    cases x <;> first | (exact absurd h Bool.false_ne_true) | skip
    rename_i ks vs p
    cases ks with
    | cons _ _ => exact absurd h Bool.false_ne_true
    | nil =>
      cases vs with
      | cons _ _ => exact absurd h Bool.false_ne_true
      | nil => exact e_dic0
  case dc1 t a b =>
    cases x <;> first | (exact absurd h Bool.false_ne_true) | skip
    rename_i ks vs p
    match ks, vs, h with
    | [], _, h => exact absurd h Bool.false_ne_true
    | _ :: _ :: _, _, h => exact absurd h Bool.false_ne_true
    | [none], _, h => exact absurd h Bool.false_ne_true
    | [some _], [], h => exact absurd h Bool.false_ne_true
    | [some _], _ :: _ :: _, h => exact absurd h Bool.false_ne_true
    | [some xk], [xv], h =>
      obtain ⟨h1, h2⟩ := b_and (show (chkE a C xk && chkE b C xv) = true from h)
      exact e_dc1 hu hz (S.e _ _ h1) (S.e _ _ h2)
  case mxd b a d =>
    cases x <;> first | (exact absurd h Bool.false_ne_true) | skip
    rename_i f args kws p
    cases f <;> first | (exact absurd h Bool.false_ne_true) | skip
    rename_i y p2
    match args, kws, h with
    | [], _, h => exact absurd h Bool.false_ne_true
    | _ :: _ :: _, _, h => exact absurd h Bool.false_ne_true
    | [_], [], h => exact absurd h Bool.false_ne_true
    | [_], _ :: _ :: _, h => exact absurd h Bool.false_ne_true
    | [xa], [⟨nm, xd, kp⟩], h =>
      obtain ⟨h, h7⟩ := b_and (show (isMaxB b && decide (y = "max") && decide (nm = some (Str.ofString "default")) && glB C y && nst xa && chkE a C xa && chkE d C xd) = true from h)
      obtain ⟨h, h6⟩ := b_and h
      obtain ⟨h, h5⟩ := b_and h
      obtain ⟨h, h4⟩ := b_and h
      obtain ⟨h, h3⟩ := b_and h
      obtain ⟨h1, h2⟩ := b_and h
      cases b <;> first | (exact absurd h1 Bool.false_ne_true) | skip
      cases of_decide_eq_true h2
      cases of_decide_eq_true h3
      exact e_mxd k.calm hu hz (S.e _ _ h6) (S.e _ _ h7) h5 (gl_ok k h4) (k.pr.blt .max rfl)
  case vws o =>
    cases x <;> first | (exact absurd h Bool.false_ne_true) | skip
    rename_i f args kws p
    cases f <;> first | (exact absurd h Bool.false_ne_true) | skip
    rename_i y p2
    cases kws <;> first | (exact absurd h Bool.false_ne_true) | skip
    match args, h with
    | [], h => exact absurd h Bool.false_ne_true
    | _ :: _ :: _, h => exact absurd h Bool.false_ne_true
    | [w], h =>
      cases w <;> first | (exact absurd h Bool.false_ne_true) | skip
      rename_i g args2 kws2 p3
      cases g <;> first | (exact absurd h Bool.false_ne_true) | skip
      rename_i v nm ap
      cases args2 <;> first | (exact absurd h Bool.false_ne_true) | skip
      cases kws2 <;> first | (exact absurd h Bool.false_ne_true) | skip
      obtain ⟨h, h6⟩ := b_and (show (decide (y = "list") && decide (nm = "values") && glB C y && chkE o C v && nsup v && (ap.endLine == p3.line)) = true from h)
      obtain ⟨h, h5⟩ := b_and h
      obtain ⟨h, h4⟩ := b_and h
      obtain ⟨h, h3⟩ := b_and h
      obtain ⟨h1, h2⟩ := b_and h
      cases of_decide_eq_true h1
      cases of_decide_eq_true h2
      exact e_vws k.calm hz (S.e _ _ h4) h5 h6 (gl_ok k h3) (k.pr.blt .list rfl)
  case isi t e =>
    cases x <;> first | (exact absurd h Bool.false_ne_true) | skip
    rename_i f args kws p
    cases f <;> first | (exact absurd h Bool.false_ne_true) | skip
    rename_i y p2
    cases kws <;> first | (exact absurd h Bool.false_ne_true) | skip
    match args, h with
    | [], h => cases h
    | [_], h => cases h
    | _ :: _ :: _ :: _, h => cases h
    | [v, w], h =>
      cases w <;> first | (exact absurd h Bool.false_ne_true) | skip
      rename_i z p3
      obtain ⟨h, h6⟩ := b_and (show (decide (y = "isinstance") && decide (z = Str.ofString (tyN t)) && glB C y && glB C z && chkE e C v && nst v) = true from h)
      obtain ⟨h, h5⟩ := b_and h
      obtain ⟨h, h4⟩ := b_and h
      obtain ⟨h, h3⟩ := b_and h
      obtain ⟨h1, h2⟩ := b_and h
      cases of_decide_eq_true h1
      cases of_decide_eq_true h2
      exact e_isi hz (S.e _ _ h5) h6 (gl_ok k h3) k.pr.isi (gl_ok k h4) (k.pr.ty t)
  case lc vs t it cc e =>
    cases x <;> first | (exact absurd h Bool.false_ne_true) | skip
    rename_i elt gens scope p
    match gens, h with
    | [], h => cases h
    | _ :: _ :: _, h => cases h
    | [⟨tg, iter, ifs, asy⟩], h =>
      obtain ⟨h, h9⟩ := b_and h
      obtain ⟨h, h8⟩ := b_and h
      obtain ⟨h, h7⟩ := b_and h
      obtain ⟨h, h6⟩ := b_and h
      obtain ⟨h, h5⟩ := b_and h
      obtain ⟨h, h4⟩ := b_and h
      obtain ⟨h, h3⟩ := b_and h
      obtain ⟨h, h2⟩ := b_and h
      obtain ⟨h0, h1⟩ := b_and h
      cases of_decide_eq_true h0
      obtain ⟨q1, q2, q3, q4, q5, q6, q7⟩ := lc_parts k sd h1 h2 h3 h4 h5 (not_b h6) h7 h8 h9
      have := e_lc (P := P) (n := n) (rc := callee P n c) (pos := p) hz k.calm (nd k) h2 q2 q3 q4 q1 q5 q6 q7 (comp_set (not_b h6) X.env)
      rw [own_map] at this
      exact this
  case lc2 vs t it t2 it2 cc e =>
    cases x <;> first | (exact absurd h Bool.false_ne_true) | skip
    rename_i elt gens scope p
    match gens, h with
    | [], h => cases h
    | [_], h => cases h
    | _ :: _ :: _ :: _, h => cases h
    | [⟨tg, iter, ifs, asy⟩, ⟨tg2, iter2, ifs2, asy2⟩], h =>
      obtain ⟨h, h18⟩ := b_and h
      obtain ⟨h, h17⟩ := b_and h
      obtain ⟨h, h16⟩ := b_and h
      obtain ⟨h, h15⟩ := b_and h
      obtain ⟨h, h14⟩ := b_and h
      obtain ⟨h, h13⟩ := b_and h
      obtain ⟨h, h12⟩ := b_and h
      obtain ⟨h, h11⟩ := b_and h
      obtain ⟨h, h10⟩ := b_and h
      obtain ⟨h, h9⟩ := b_and h
      obtain ⟨h, h8⟩ := b_and h
      obtain ⟨h, h7⟩ := b_and h
      obtain ⟨h, h6⟩ := b_and h
      obtain ⟨h, h5⟩ := b_and h
      obtain ⟨h, h4⟩ := b_and h
      obtain ⟨h, h3⟩ := b_and h
      obtain ⟨h1, h2⟩ := b_and h
      cases of_decide_eq_true h1
      cases of_decide_eq_true h2
      cases ifs with
      | cons _ _ => cases h3
      | nil =>
        have ok : BlkOk X.N X.env.scope scope (ownOf C vs) := by
          rw [k.N, k.sc]
          exact blkOk_by h4
        have kb := fun s H A cl fp => k.blk ok.kind s H A cl fp
        have sl : ∀ {t : T}, (t.slots.all fun j => decide (j ∈ vs)) = true → ∀ j ∈ t.slots, j ∈ (ownOf C vs).map (·.2) := fun hs j hj => by
          rw [own_map]
          exact of_decide_eq_true (List.all_eq_true.mp hs j hj)
        have := e_lc2 (P := P) (n := n) (rc := callee P n c) (pos := p) hz k.calm (nd k) h5 h6 (sl h7) (sl h8) (nm_or h15) (nm_or h16) (S.i it iter h11 tg (tgt_of h15 h9)) ok
          (fun s H A cl fp => g_ok (kb s H A cl fp) t tg h9) (fun s H A cl fp => (sd _ _ (kb s H A cl fp)).i it2 iter2 h12 tg2 (tgt_of h16 h10)) (fun s H A cl fp => g_ok (kb s H A cl fp) t2 tg2 h10)
          (fun s H A cl fp => ifs_ok (kb s H A cl fp) sd h17) (fun s H A cl fp => (sd _ _ (kb s H A cl fp)).e e elt h18) (comp_set (not_b h13) X.env) (fun env => comp_set (not_b h14) env)
        rw [own_map] at this
        exact this
end
end Ev
end

section
set_option Elab.async false
set_option linter.all false
set_option maxRecDepth 100000
set_option maxHeartbeats 16000000
/-! Snd21: the runner is right: all. -/
namespace Ev
open PySem PySem.Spec L2
section
variable {P : List Fn} {n c : Nat} {C : Ctx} {X : Cx}
theorem k_ok (k : CtxOk P c C X) (S : Sound P n c C X) : ∀ e x, chkK e C x = true → PET X x (tE X.K Z0 (ev P (n + 1) c) e) := by
  intro e x h
  rw [ev_succ]
  cases e with
  | rpl a y z =>
    cases x <;> first | (exact absurd h Bool.false_ne_true) | skip
    rename_i f args kws p
    cases f <;> first | (exact absurd h Bool.false_ne_true) | skip
    rename_i v nm ap
    cases kws <;> first | (exact absurd h Bool.false_ne_true) | skip
    match args, h with
    | [], h => cases h
    | [_], h => cases h
    | _ :: _ :: _ :: _, h => cases h
    | [k1, k2], h =>
      cases k1 <;> first | (exact absurd h Bool.false_ne_true) | skip
      rename_i c1 j1 p1
      cases k2 <;> first | (exact absurd h Bool.false_ne_true) | skip
      rename_i c2 j2 p2
      obtain ⟨h, h7⟩ := b_and (show (decide (nm = "replace") && decide (c1 = .str y) && decide (c2 = .str z) && !(y == z) && nsup v && (ap.endLine == p.line) && (chkE a C v || chkK a C v)) = true from h)
      obtain ⟨h, h6⟩ := b_and h
      obtain ⟨h, h5⟩ := b_and h
      obtain ⟨h, h4⟩ := b_and h
      obtain ⟨h, h3⟩ := b_and h
      obtain ⟨h1, h2⟩ := b_and h
      cases of_decide_eq_true h1
      cases of_decide_eq_true h2
      cases of_decide_eq_true h3
      rw [Bool.or_eq_true] at h7
      rcases h7 with h7 | h7
      · exact k_rplC z0_mono (S.e a v h7) (not_b h4) h5 h6
      · exact k_rplT z0_mono (S.k a v h7) (not_b h4) h5 h6
  | _ => cases h
theorem es_ok (k : CtxOk P c C X) (S : Sound P n c C X) : ∀ e xs, chkEs e C xs = true → PA X xs (tEs X.K Z0 (ev P (n + 1) c) e) := by
  intro e xs h
  rw [ev_succ]
  cases e with
  | nil =>
    cases xs with
    | nil => exact a_nil
    | cons _ _ => cases h
  | cons e r =>
    cases xs with
    | nil => cases h
    | cons x xs =>
      obtain ⟨h, h3⟩ := b_and h
      obtain ⟨h1, h2⟩ := b_and h
      exact a_cons z0_mono (S.e _ _ h2) (S.es _ _ h3) h1
  | _ => cases h
theorem cmp_bl {P : List Fn} {n c : Nat} {a : E} (h : isCmpE a = true) : ∀ env st d st', (ev P n c).e a env st = .ok d st' → ∃ k, d = .bl k := by
  intro env st d st' e
  cases n with
  | zero => cases e
  | succ n =>
    rw [ev_succ] at e
    have ofb : ∀ {o : Option Bool} {st : Sto}, ofB st o = .ok d st' → ∃ k, d = .bl k := fun {o st} e => by
      cases o with
      | none => cases e
      | some k => cases e; exact ⟨k, rfl⟩
    cases a with
    | cmp o a b =>
      obtain ⟨x, st1, e⟩ := ok_bind (show ((ev P n c).e a env st).bind (fun x st => ((ev P n c).e b env st).bind fun y st => ofB st (cmpop o x y st)) = .ok d st' from e)
      obtain ⟨y, st2, e⟩ := ok_bind e
      exact ofb e
    | cmp2 o p a b cc =>
      obtain ⟨x, st1, e⟩ := ok_bind (show ((ev P n c).e a env st).bind (fun x st => ((ev P n c).e b env st).bind fun y st => (match cmpop o x y st with
        | some true => ((ev P n c).e cc env st).bind fun z st => ofB st (cmpop p y z st)
        | some false => .ok (.bl false) st
        | none => .no)) = .ok d st' from e)
      obtain ⟨y, st2, e⟩ := ok_bind e
      cases e2 : cmpop o x y st2 with
      | none => rw [e2] at e; cases e
      | some k =>
        rw [e2] at e
        cases k with
        | false => cases e; exact ⟨false, rfl⟩
        | true =>
          obtain ⟨z, st3, e⟩ := ok_bind (show ((ev P n c).e cc env st2).bind (fun z st => ofB st (cmpop p y z st)) = .ok d st' from e)
          exact ofb e
    | _ => cases h
theorem t_ok (k : CtxOk P c C X) (ih : ∀ m, m ≤ n → Sound P m c C X) : ∀ e x, chkT e C x = true → PT X x (tT X.K Z0 (ev P (n + 1) c) e) := by
  have S := ih n (Nat.le_refl n)
  have hz := z0_mono
  have hu := k.hu
  intro e x h
  rw [ev_succ]
  cases e with
  | and a b =>
    cases x <;> first | (exact absurd h Bool.false_ne_true) | skip
    rename_i op vs p
    match vs, h with
    | [], h => exact absurd (b_and (show (_ && false) = true from h)).2 Bool.false_ne_true
    | [_], h => exact absurd (b_and (show (_ && false) = true from h)).2 Bool.false_ne_true
    | y :: z :: rest, h =>
      obtain ⟨h1, h⟩ := b_and h
      obtain ⟨h2, h3⟩ := b_and h
      cases of_decide_eq_true h1
      cases rest with
      | nil => exact (t_and hz (S.t _ _ h2) (pw_and1 (S.t _ _ h3))).pt
      | cons _ _ => exact (t_and hz (S.t _ _ h2) (pw_of (S.t _ _ h3))).pt
  | or a b =>
    cases x <;> first | (exact absurd h Bool.false_ne_true) | skip
    rename_i op vs p
    match vs, h with
    | [], h => exact absurd (b_and (show (_ && false) = true from h)).2 Bool.false_ne_true
    | [_], h => exact absurd (b_and (show (_ && false) = true from h)).2 Bool.false_ne_true
    | y :: z :: rest, h =>
      obtain ⟨h1, h⟩ := b_and h
      obtain ⟨h2, h3⟩ := b_and h
      cases of_decide_eq_true h1
      cases rest with
      | nil => exact (t_or hz (S.t _ _ h2) (pw_or1 (S.t _ _ h3))).pt
      | cons _ _ => exact (t_or hz (S.t _ _ h2) (pw_of (S.t _ _ h3))).pt
  | not a =>
    cases x <;> first | (exact absurd h Bool.false_ne_true) | skip
    obtain ⟨h1, h2⟩ := b_and h
    cases of_decide_eq_true h1
    exact t_not hz (S.t _ _ h2)
  | val e =>
    obtain ⟨h1, h2⟩ := b_and (show (chkE e C x && (tst x || isCmpE e)) = true from h)
    cases ht : tst x with
    | true => exact t_val hz ht (S.e _ _ h1)
    | false =>
      rw [ht] at h2
      have h2 : isCmpE e = true := h2
      refine t_bool hz ?_ (cmp_bl h2)
      cases n with
      | zero => exact ⟨fun pins s σ H Q I ⟨μ, env, st, hE, hS, q⟩ => q.elim⟩
      | succ m =>
        have S' := ih m (Nat.le_succ m)
        rw [ev_succ]
        cases e with
        | cmp o a b =>
          cases x <;> first | (exact absurd h1 Bool.false_ne_true) | skip
          rename_i l ops rs p
          match ops, rs, h1 with
          | [], _, h => cases h
          | [op], [], h => cases h
          | [op], [r], h =>
            obtain ⟨h, h4⟩ := b_and (show (decide (op = pyC o) && chkE a C l && chkE b C r && !behindInMarks (pyC o) r) = true from h)
            obtain ⟨h, h3⟩ := b_and h
            obtain ⟨h1, h2⟩ := b_and h
            cases of_decide_eq_true h1
            exact t_cmp hu hz (S'.e _ _ h2) (S'.e _ _ h3) (not_b h4)
          | [op], _ :: _ :: _, h => cases h
          | _ :: _ :: _, _, h => cases h
        | cmp2 o p a b cc =>
          cases x <;> first | (exact absurd h1 Bool.false_ne_true) | skip
          rename_i l ops rs q
          match ops, rs, h1 with
          | [], _, h => cases h
          | [_], _, h => cases h
          | [op, op2], [], h => cases h
          | [op, op2], [_], h => cases h
          | [op, op2], [r, r2], h =>
            obtain ⟨h, h6⟩ := b_and (show (decide (op = pyC o) && decide (op2 = pyC p) && chkE a C l && chkE b C r && chkE cc C r2 && !lastMarks [pyC o, pyC p] [r, r2]) = true from h)
            obtain ⟨h, h5⟩ := b_and h
            obtain ⟨h, h4⟩ := b_and h
            obtain ⟨h, h3⟩ := b_and h
            obtain ⟨h1, h2⟩ := b_and h
            cases of_decide_eq_true h1
            cases of_decide_eq_true h2
            exact t_cmp2 hu hz (S'.e _ _ h3) (S'.e _ _ h4) (S'.e _ _ h5) (not_b h6)
          | [op, op2], _ :: _ :: _ :: _, h => cases h
          | _ :: _ :: _ :: _, _, h => cases h
        | _ => cases h2
  | _ => cases h
theorem is_one {es : E} (h : (match es with | .cons _ q => (match q with | .nil => true | _ => false) | _ => false) = true) : twoE es = true := by
  cases es with
  | cons e q =>
    cases q with
    | nil => rfl
    | _ => exact absurd h Bool.false_ne_true
  | _ => exact absurd h Bool.false_ne_true
theorem is_two {es : E} (h : (match es with | .cons _ q => (match q with | .cons _ q' => (match q' with | .nil => true | _ => false) | _ => false) | _ => false) = true) : twoE es = true := by
  cases es with
  | cons e q =>
    cases q with
    | cons e2 q2 =>
      cases q2 with
      | nil => rfl
      | _ => exact absurd h Bool.false_ne_true
    | _ => exact absurd h Bool.false_ne_true
  | _ => exact absurd h Bool.false_ne_true
theorem is_three {es : E} (h : threeE es = true) : ∃ a b c, es = .cons a (.cons b (.cons c .nil)) := by
  cases es with
  | cons a q =>
    cases q with
    | cons b q =>
      cases q with
      | cons c q =>
        cases q with
        | nil => exact ⟨a, b, c, rfl⟩
        | _ => exact absurd h Bool.false_ne_true
      | _ => exact absurd h Bool.false_ne_true
    | _ => exact absurd h Bool.false_ne_true
  | _ => exact absurd h Bool.false_ne_true
theorem i_ok (k : CtxOk P c C X) (S : Sound P n c C X) : ∀ e x, chkI e C x = true → ∀ tg, (prB e = true → ∃ es k p, tg = .Tuple es k p) → PI X tg x (tI X.K Z0 (ev P (n + 1) c) e) := by
  have hz := z0_mono
  intro e x h tg ht
  rw [ev_succ]
  cases e with
  | val e => exact i_val hz (S.e _ _ h)
  | blt b es =>
    cases b with
    | range =>
      cases x <;> first | (exact absurd h Bool.false_ne_true) | skip
      rename_i f args kws p
      cases f <;> first | (exact absurd h Bool.false_ne_true) | skip
      rename_i y p2
      cases kws <;> first | (exact absurd h Bool.false_ne_true) | skip
      obtain ⟨h, h4⟩ := b_and h
      obtain ⟨h, h3⟩ := b_and h
      obtain ⟨h1, h2⟩ := b_and h
      cases of_decide_eq_true h1
      have hg := gl_ok k h2
      have hm : X.mg "range" = none := k.pr.blt .range rfl
      rw [Bool.or_eq_true] at h4
      rcases h4 with h4 | h4
      · rcases args12 (fun e x he => S.e e x he) h3 h4 with ⟨a, xa, rfl, rfl, ha, hn⟩ | ⟨a, b, xa, xb, rfl, rfl, ha, hb, hn, hn2⟩
        · exact i_range1 hz hg hm ha hn
        · exact i_range2 hz hg hm ha hb hn hn2
      · obtain ⟨a, b, c, rfl⟩ := is_three h4
        match args, h3 with
        | [], h3 => exact absurd h3 Bool.false_ne_true
        | [_], h3 => exact absurd (b_and (show (_ && false) = true from h3)).2 Bool.false_ne_true
        | [_, _], h3 => exact absurd (b_and (show (_ && false) = true from (b_and (show (_ && _) = true from h3)).2)).2 Bool.false_ne_true
        | xa :: xb :: xc :: rest, h3 =>
          obtain ⟨h5, h6⟩ := b_and (show (nst xa && chkE a C xa && (nst xb && chkE b C xb && (nst xc && chkE c C xc && chkEs .nil C rest))) = true from h3)
          obtain ⟨n1, q1⟩ := b_and h5
          obtain ⟨h7, h8⟩ := b_and h6
          obtain ⟨n2, q2⟩ := b_and h7
          obtain ⟨h9, h10⟩ := b_and h8
          obtain ⟨n3, q3⟩ := b_and h9
          cases rest with
          | nil => exact i_range3 hz hg hm (S.e _ _ q1) (S.e _ _ q2) (S.e _ _ q3) n1 n2 n3
          | cons _ _ => exact absurd h10 Bool.false_ne_true
    | enumerate =>
      cases x <;> first | (exact absurd h Bool.false_ne_true) | skip
      rename_i f args kws p
      cases f <;> first | (exact absurd h Bool.false_ne_true) | skip
      rename_i y p2
      cases kws <;> first | (exact absurd h Bool.false_ne_true) | skip
      obtain ⟨h, h4⟩ := b_and h
      obtain ⟨h, h3⟩ := b_and h
      obtain ⟨h1, h2⟩ := b_and h
      cases of_decide_eq_true h1
      obtain ⟨tes, tk, tp, rfl⟩ := ht rfl
      have h5 : twoE es = true := is_one h4
      rcases args12 (fun e x he => S.e e x he) h3 h5 with ⟨a, xa, rfl, rfl, ha, hn⟩ | ⟨a, b, xa, xb, rfl, rfl, _⟩
      · exact i_enum hz (gl_ok k h2) (k.pr.blt .enumerate rfl) ha hn
      · exact absurd h4 Bool.false_ne_true
    | zip =>
      cases x <;> first | (exact absurd h Bool.false_ne_true) | skip
      rename_i f args kws p
      cases f <;> first | (exact absurd h Bool.false_ne_true) | skip
      rename_i y p2
      cases kws <;> first | (exact absurd h Bool.false_ne_true) | skip
      obtain ⟨h, h4⟩ := b_and h
      obtain ⟨h, h3⟩ := b_and h
      obtain ⟨h1, h2⟩ := b_and h
      cases of_decide_eq_true h1
      obtain ⟨tes, tk, tp, rfl⟩ := ht rfl
      have h5 : twoE es = true := is_two h4
      rcases args12 (fun e x he => S.e e x he) h3 h5 with ⟨a, xa, rfl, rfl, ha, hn⟩ | ⟨a, b, xa, xb, rfl, rfl, ha, hb, hn, hn2⟩
      · exact absurd h4 Bool.false_ne_true
      · exact i_zip hz (gl_ok k h2) (k.pr.blt .zip rfl) ha hb hn hn2
    | reversed =>
      cases x <;> first | (exact absurd h Bool.false_ne_true) | skip
      rename_i f args kws p
      cases f <;> first | (exact absurd h Bool.false_ne_true) | skip
      rename_i y p2
      cases kws <;> first | (exact absurd h Bool.false_ne_true) | skip
      obtain ⟨h, h3⟩ := b_and h
      obtain ⟨h1, h2⟩ := b_and h
      cases of_decide_eq_true h1
      obtain ⟨as, args2, p3, p4, rfl, rfl, hg2, h9, h10⟩ := chkR_ok h3
      exact i_rev hz (gl_ok k h2) (k.pr.blt .reversed rfl) (gl_ok k hg2) (k.pr.blt .range rfl) (args12 (fun e x he => S.e e x he) h9 h10)
    | _ => cases h
  | mth m o es =>
    cases m <;> first | (exact absurd h Bool.false_ne_true) | skip
    cases es <;> first | (exact absurd h Bool.false_ne_true) | skip
    cases x <;> first | (exact absurd h Bool.false_ne_true) | skip
    rename_i f args kws p
    cases f <;> first | (exact absurd h Bool.false_ne_true) | skip
    rename_i v y ap
    cases args <;> first | (exact absurd h Bool.false_ne_true) | skip
    cases kws <;> first | (exact absurd h Bool.false_ne_true) | skip
    obtain ⟨h, h4⟩ := b_and (show (decide (y = "items") && chkE o C v && nsup v && (ap.endLine == p.line)) = true from h)
    obtain ⟨h, h3⟩ := b_and h
    obtain ⟨h1, h2⟩ := b_and h
    cases of_decide_eq_true h1
    obtain ⟨tes, tk, tp, rfl⟩ := ht rfl
    exact i_items hz (S.e _ _ h2) h3 h4
  | _ => cases h
end
end Ev
end

section
set_option Elab.async false
set_option linter.all false
set_option maxRecDepth 100000
set_option maxHeartbeats 16000000
/-! Snd22: the runner is right: statements, all. -/
namespace Ev
open PySem PySem.Spec L2
section
variable {P : List Fn} {n c : Nat} {C : Ctx} {X : Cx}
theorem sub_assign {o i : Expr} {p : Pos} {env : PySem.Env} (h : noSlice i = true) : ∀ v, assign (.Subscript o i p) env v = (do
      let ov ← holding [v] (eval o env)
      let iv ← holding [v, ov] (eval i env)
      standAt p
      holding [v, ov, iv] (setItem ov iv v)
      release [v, ov, iv] []) := by
  intro v
  cases i <;> first | rfl | cases h
theorem swaps_lc {elt : Expr} {gs : List Comprehension} {scope : Scope} {pos py : Pos} {y : Str} {l : Nat} {env : PySem.Env} (hk : env.scope.kind = .function) : swapsWith (.ListComp elt gs scope pos) (some (.Name y py)) l env =
    pure (decide (env.scope.names.lookup y = some .local) && (py.line == pos.line) && !(scope.names.any fun (n, k) => n == y && (k == .local || k == .cell))) := by
  have hb : env.blockKind = .function := by unfold PySem.Env.blockKind; rw [hk]; rfl
  have e : (env.kindOf y == some NameKind.local) = decide (env.scope.names.lookup y = some .local) := by
    show (env.scope.names.lookup y == some NameKind.local) = _
    cases h : decide (env.scope.names.lookup y = some NameKind.local) with
    | true => exact beq_iff_eq.mpr (of_decide_eq_true h)
    | false => exact beq_eq_false_iff_ne.mpr (of_decide_eq_false h)
  unfold swapsWith
  simp only [hb, Expr.pos]
  rw [e]
  rfl
theorem gt_ok (k : CtxOk P c C X) (hu : X.A.units + 200 < cLine) (S : Sound P n c C X) : ∀ (t : G) (x : Expr), chkGt t C x = true → PG X x (gG X.K Z0 (ev P n c) t) ∧ nst x = true
  | .nm i, x, h => by
    cases x <;> first | (exact absurd h Bool.false_ne_true) | skip
    rename_i y p
    obtain ⟨h1, h2, h3⟩ := loc_ok k (show locB C i y = true from h)
    exact ⟨pg_name (by rw [k.N]; exact k.nd) h1 h2 h3, rfl⟩
  | .sub o i, x, h => by
    cases x <;> first | (exact absurd h Bool.false_ne_true) | skip
    rename_i xo xi p
    obtain ⟨h, h3⟩ := b_and (show (chkE o C xo && chkE i C xi && noSlice xi) = true from h)
    obtain ⟨h1, h2⟩ := b_and h
    exact ⟨pg_sub (S.e _ _ h1) (S.e _ _ h2) (set_all hu) (sub_assign h3), rfl⟩
theorem mul_w {t1 t2 v1 v2 : Expr} {kt k2 : Nat} {pt pt2 : Pos} {env : PySem.Env} (hsc : env.scope = C.sc) (h : (nlB C t1 || nlB C t2 || (foldedForSure 8 v1 && foldedForSure 8 v2)) = true) :
    swappedStores [.Tuple [t1, t2] kt pt] (.Tuple [v1, v2] k2 pt2) env = pure none := by
  have key : (nlB C t1 || nlB C t2) = true → ∀ (f : Expr → Option Str), (∀ e, nlB C e = true → f e = none) → (([t1, t2].filterMap f).length != 2) = true := by
    intro h f hf
    have two : ∀ (o1 o2 : Option Str), (o1 = none ∨ o2 = none) → f t1 = o1 → f t2 = o2 → (([t1, t2].filterMap f).length != 2) = true := by
      intro o1 o2 ho e1 e2
      rcases ho with rfl | rfl
      · cases o2 <;> simp [List.filterMap_cons, e1, e2]
      · cases o1 <;> simp [List.filterMap_cons, e1, e2]
    rw [Bool.or_eq_true] at h
    rcases h with h | h
    · exact two _ _ (.inl (hf _ h)) rfl rfl
    · exact two _ _ (.inr (hf _ h)) rfl rfl
  unfold swappedStores
  dsimp only
  split
  · rfl
  · split
    · rfl
    · split
      · rfl
      · rename_i hn
        rw [Bool.or_eq_true] at h
        rcases h with h | h
        · refine absurd ?_ hn
          rw [Bool.or_eq_true]
          refine .inl (key h _ fun e he => ?_)
          cases e <;> first | rfl | (cases he; done) | skip
          rename_i y p
          have he : (!(decide (C.sc.names.lookup y = some NameKind.local))) = true := he
          have hne : env.kindOf y ≠ some .local := by
            intro z
            have z : env.scope.names.lookup y = some .local := z
            rw [hsc] at z
            rw [z] at he
            cases he
          have hb : (env.kindOf y == some NameKind.local) = false := beq_eq_false_iff_ne.mpr hne
          show (if (env.kindOf y == some NameKind.local && _) = true then some y else none) = none
          rw [hb]
          rfl
        · obtain ⟨f1, f2⟩ := b_and h
          rw [if_pos]
          simp [f1, f2]
def isStar : Expr → Bool
  | .Starred .. => true
  | _ => false
theorem star_no {a : Expr} (h : nst a = true) : isStar a = false := by cases a <;> first | rfl | cases h
theorem par_w {x y : Str} {px py pt pt2 : Pos} {a b : Expr} {kt k2 : Nat} {env : PySem.Env} (hk : env.scope.kind = .function) (hx : env.scope.names.lookup x = some .local) (hy : env.scope.names.lookup y = some .local) (hxy : x ≠ y) (hl : (py.line == px.line) = true)
    (ha : nst a = true) (hb : nst b = true) (hf : (foldedForSure 8 a && foldedForSure 8 b) = false) (hc : (constantsAlone 8 a && constantsAlone 8 b) = false) :
    swappedStores [.Tuple [.Name x px, .Name y py] kt pt] (.Tuple [a, b] k2 pt2) env = pure (some [x, y]) := by
  have hbk : env.blockKind = .function := by unfold PySem.Env.blockKind; rw [hk]; rfl
  have kx : env.kindOf x = some .local := hx
  have ky : env.kindOf y = some .local := hy
  have n1 := star_no ha
  have n2 := star_no hb
  unfold swappedStores
  simp only [hbk, List.length_cons, List.length_nil, List.any_cons, List.any_nil, List.head?_cons, Option.map_some, Option.getD_some, Expr.pos, List.filterMap_cons, List.filterMap_nil, kx, ky, hl]
  have dd : ([x, y] : List Str).eraseDups = [x, y] := by
    rw [List.eraseDups_cons, List.filter_cons, if_pos (by simp [Ne.symm hxy]), List.filter_nil, List.eraseDups_cons]
    simp
  have a1 : [a, b].all (foldedForSure 8) = false := by simpa using hf
  have a2 : [a, b].all (constantsAlone 8) = false := by simpa using hc
  have e1 : (some NameKind.local == some NameKind.local) = true := rfl
  simp only [e1, beq_self_eq_true, Bool.and_self, if_true, dd, a1, a2]
  show (if (!(true || 0 + 1 + 1 == 3) || 0 + 1 + 1 != 0 + 1 + 1 || ScopeKind.function != ScopeKind.function) = true then pure none else if (isStar a || (isStar b || false)) = true then pure none else _) = _
  rw [n1, n2]
  rfl
theorem par3_w {x y z : Str} {px py pz pt pt2 : Pos} {a b c : Expr} {kt k2 : Nat} {env : PySem.Env} (hk : env.scope.kind = .function) (hx : env.scope.names.lookup x = some .local) (hy : env.scope.names.lookup y = some .local) (hz : env.scope.names.lookup z = some .local) (hxy : x ≠ y) (hxz : x ≠ z) (hyz : y ≠ z) (hl : (py.line == px.line) = true) (hl2 : (pz.line == px.line) = true)
    (ha : nst a = true) (hb : nst b = true) (hc0 : nst c = true) (hf : (foldedForSure 8 a && foldedForSure 8 b && foldedForSure 8 c) = false) (hc : (constantsAlone 8 a && constantsAlone 8 b && constantsAlone 8 c) = false) :
    swappedStores [.Tuple [.Name x px, .Name y py, .Name z pz] kt pt] (.Tuple [a, b, c] k2 pt2) env = pure (some [x, y, z]) := by
  have hbk : env.blockKind = .function := by unfold PySem.Env.blockKind; rw [hk]; rfl
  have kx : env.kindOf x = some .local := hx
  have ky : env.kindOf y = some .local := hy
  have kz : env.kindOf z = some .local := hz
  have n1 := star_no ha
  have n2 := star_no hb
  have n3 := star_no hc0
  unfold swappedStores
  simp only [hbk, List.length_cons, List.length_nil, List.any_cons, List.any_nil, List.head?_cons, Option.map_some, Option.getD_some, Expr.pos, List.filterMap_cons, List.filterMap_nil, kx, ky, kz, hl, hl2]
  have dd : ([x, y, z] : List Str).eraseDups = [x, y, z] := by
    rw [List.eraseDups_cons, List.filter_cons, if_pos (by simp [Ne.symm hxy]), List.filter_cons, if_pos (by simp [Ne.symm hxz]), List.filter_nil, List.eraseDups_cons, List.filter_cons, if_pos (by simp [Ne.symm hyz]), List.filter_nil, List.eraseDups_cons]
    simp
  have a1 : [a, b, c].all (foldedForSure 8) = false := by simpa [Bool.and_assoc] using hf
  have a2 : [a, b, c].all (constantsAlone 8) = false := by simpa [Bool.and_assoc] using hc
  have e1 : (some NameKind.local == some NameKind.local) = true := rfl
  simp only [e1, beq_self_eq_true, Bool.and_self, if_true, dd, a1, a2]
  show (if (!(0 + 1 + 1 + 1 == 2 || true) || 0 + 1 + 1 + 1 != 0 + 1 + 1 + 1 || ScopeKind.function != ScopeKind.function) = true then pure none else if (isStar a || (isStar b || (isStar c || false))) = true then pure none else _) = _
  rw [n1, n2, n3]
  rfl
theorem s_ok (k : CtxOk P c C X) (ih : ∀ m, m ≤ n → ∀ (c : Nat) (C : Ctx) (X : Cx), CtxOk P c C X → Sound P m c C X) : ∀ s x, chkS s C x = true → PS X x (tS X.K Z0 (ev P (n + 1) c) s) := by
  have S := ih n (Nat.le_refl n) c C X k
  have hz := z0_mono
  have hu := k.hu
  intro s x h
  rw [ev_succ]
  cases s with
  | skip =>
    cases x <;> first | (exact absurd h Bool.false_ne_true) | skip
    exact s_pass
  | exp e =>
    cases x <;> first | (exact absurd h Bool.false_ne_true) | skip
    obtain ⟨h1, h2⟩ := b_and h
    exact s_exp hz (S.e _ _ h1) h2
  | ret e =>
    cases x <;> first | (exact absurd h Bool.false_ne_true) | skip
    rename_i o p
    cases o with
    | none => cases h
    | some v => exact s_ret hz (S.e _ _ h)
  | retn =>
    cases x <;> first | (exact absurd h Bool.false_ne_true) | skip
    rename_i o p
    cases o with
    | none => exact s_retn
    | some v => cases h
  | brk =>
    cases x <;> first | (exact absurd h Bool.false_ne_true) | skip
    exact s_brk
  | cnt =>
    cases x <;> first | (exact absurd h Bool.false_ne_true) | skip
    exact s_cnt
  | asg t e =>
    cases x <;> first | (exact absurd h Bool.false_ne_true) | skip
    rename_i tgs v p
    match tgs, h with
    | [], h => cases h
    | _ :: _ :: _, h => cases h
    | [tg], h =>
      have tup : (t.wf && chkG t C tg && nst tg && chkE e C v && ncmp v && !isTupE v) = true → PS X (.Assign [tg] v p) (tS X.K Z0 (step P n (ev P n c) (callee P n c)) (.asg t e)) := fun h => by
        obtain ⟨h, h6⟩ := b_and h
        obtain ⟨h, h5⟩ := b_and h
        obtain ⟨h, h4⟩ := b_and h
        obtain ⟨h, h3⟩ := b_and h
        obtain ⟨h1, h2⟩ := b_and h
        exact s_asgT hz h1 (g_ok k t tg h2) (S.e _ _ h4) (swaps_no h5) (swapped_no (not_b h6)) (by rw [asg_cons h3]; rfl)
      cases t with
      | nm i =>
        cases tg <;> first | (exact absurd h Bool.false_ne_true) | skip
        rename_i y py
        obtain ⟨h, h3⟩ := b_and h
        obtain ⟨h1, h2⟩ := b_and h
        obtain ⟨g1, g2, g3⟩ := loc_ok k h1
        by_cases hn : ncmp v = true
        · exact s_asgN hz (nd k) g1 g2 g3 (S.e _ _ h2) (swaps_no hn)
        · cases v with
          | ListComp elt gens scope pos =>
            have hk : X.env.scope.kind = .function := by rw [k.sc]; exact k.kd
            have hsw := swaps_lc (elt := elt) (gs := gens) (scope := scope) (pos := pos) (py := py) (y := y) (l := p.line) hk
            cases hb : (decide (X.env.scope.names.lookup y = some .local) && (py.line == pos.line) && !(scope.names.any fun (n, k) => n == y && (k == .local || k == .cell))) with
            | false => exact s_asgN hz (nd k) g1 g2 g3 (S.e _ _ h2) (by rw [hsw, hb])
            | true =>
              obtain ⟨hb1, _⟩ := b_and hb
              obtain ⟨hb1, _⟩ := b_and hb1
              have hyl := of_decide_eq_true hb1
              cases n with
              | zero => exact ⟨fun pins s σ H D I ⟨μ, env, st, hE, hS, q⟩ => q.elim⟩
              | succ m =>
                cases e with
                | lc vs t it cc e =>
                  match gens, h2 with
                  | [], h => cases h
                  | _ :: _ :: _, h => cases h
                  | [⟨tg, iter, ifs, asy⟩], h =>
                    obtain ⟨h, q9⟩ := b_and h
                    obtain ⟨h, q8⟩ := b_and h
                    obtain ⟨h, q7⟩ := b_and h
                    obtain ⟨h, q6⟩ := b_and h
                    obtain ⟨h, q5⟩ := b_and h
                    obtain ⟨h, q4⟩ := b_and h
                    obtain ⟨h, q3⟩ := b_and h
                    obtain ⟨h, q2⟩ := b_and h
                    obtain ⟨q0, q1⟩ := b_and h
                    cases of_decide_eq_true q0
                    obtain ⟨w1, w2, w3, w4, w5, w6, w7⟩ := lc_parts k (fun C X kk => ih m (Nat.le_succ m) c C X kk) q1 q2 q3 q4 q5 (not_b q6) q7 q8 q9
                    have := s_setLc (P := P) (n := m) (rc := callee P m c) (n2 := m + 1) (rc2 := callee P (m + 1) c) (r2 := ev P (m + 1) c) hz k.calm (nd k) g1 hyl (by rw [hsw, hb]) q2 w2 w3 w4 w1 w5 w6 w7 (comp_set (not_b q6) X.env) (fun env st => by rw [ev_succ])
                    rw [own_map] at this
                    exact this
                | _ => first | exact absurd h2 Bool.false_ne_true | exact absurd h3 Bool.false_ne_true
          | _ => first | exact absurd rfl hn | exact absurd h3 Bool.false_ne_true
      | nil => exact tup h
      | cons _ _ => exact tup h
  | sto o i e =>
    cases x <;> first | (exact absurd h Bool.false_ne_true) | skip
    rename_i tgs v p
    match tgs, h with
    | [], h => cases h
    | _ :: _ :: _, h => cases h
    | [tg], h =>
      cases tg with
      | Subscript xo xi ps =>
        obtain ⟨h, h5⟩ := b_and h
        obtain ⟨h, h4⟩ := b_and h
        obtain ⟨h, h3⟩ := b_and h
        obtain ⟨h1, h2⟩ := b_and h
        exact s_sto hu hz (S.e _ _ h1) (S.e _ _ h2) (S.e _ _ h3) (sub_assign h4) (swaps_no (v := v) (t := some (.Subscript xo xi ps)) (l := p.line) (env := X.env) h5) (by cases v <;> rfl) rfl
      | _ => exact absurd h Bool.false_ne_true
  | aug i o e =>
    cases x <;> first | (exact absurd h Bool.false_ne_true) | skip
    rename_i tg op v p
    cases tg <;> first | (exact absurd h Bool.false_ne_true) | skip
    obtain ⟨h, h3⟩ := b_and h
    obtain ⟨h1, h2⟩ := b_and h
    cases of_decide_eq_true h2
    obtain ⟨g1, g2, g3⟩ := loc_ok k h1
    exact s_aug hz (nd k) g1 g2 g3 (S.e _ _ h3)
  | par i j a b =>
    cases x <;> first | (exact absurd h Bool.false_ne_true) | skip
    rename_i tgs v p
    match tgs, h with
    | [], h => cases h
    | _ :: _ :: _, h => cases h
    | [tg], h =>
      cases tg with
      | Tuple ts kt pt =>
        match ts, h with
        | [], h => cases h
        | [_], h => cases h
        | _ :: _ :: _ :: _, h => cases h
        | [t1, t2], h =>
          cases t1 with
          | Name y py =>
            cases t2 with
            | Name z pz =>
              cases v with
              | Tuple vs k2 pt2 =>
                match vs, h with
                | [], h => cases h
                | [_], h => cases h
                | _ :: _ :: _ :: _, h => cases h
                | [v1, v2], h =>
                  obtain ⟨h, h3⟩ := b_and h
                  obtain ⟨h1, h2⟩ := b_and h
                  obtain ⟨h, g11⟩ := b_and h1
                  obtain ⟨h, g10⟩ := b_and h
                  obtain ⟨h, g9⟩ := b_and h
                  obtain ⟨h, g8⟩ := b_and h
                  obtain ⟨h, g7⟩ := b_and h
                  obtain ⟨h, g6⟩ := b_and h
                  obtain ⟨h, g5⟩ := b_and h
                  obtain ⟨h, g4⟩ := b_and h
                  obtain ⟨h, g3⟩ := b_and h
                  obtain ⟨g1, g2⟩ := b_and h
                  have g1 := of_decide_eq_true g1
                  have g2 := of_decide_eq_true g2
                  have g3 := of_decide_eq_true g3
                  have g4 := of_decide_eq_true g4
                  have g5 := of_decide_eq_true g5
                  have g6 := of_decide_eq_true g6
                  refine impS (ps_par k.calm (nd k) (by rw [k.N]; exact g1) (by rw [k.N]; exact g2) g3 (by rw [k.sc]; exact g4) (by rw [k.sc]; exact g5) (pa_cons (S.e _ _ h2) (pa_cons (S.e _ _ h3) pa_nil (star_cons g9)) (star_cons g8))
                    (par_w (by rw [k.sc]; exact k.kd) (by rw [k.sc]; exact g4) (by rw [k.sc]; exact g5) g6 g7 g8 g9 (not_b g10) (not_b g11)) rfl) fun D σ H ⟨μ, env, st, hE, hS, q⟩ => ?_
                  refine seqE hz hE hS q fun d st1 μ1 v H1 L1 r1 S1 q1 => seqE hz (hE.mono L1) S1 q1 fun d2 st2 μ2 w H2 L2 r2 S2 q2 => ?_
                  exact ⟨v, w, rfl, (show PostS X.K μ H (.nx ((env.put i d).put j d2)) st2 D from q2) μ2 _ H2 (L1.trans L2) ((((hE.mono L1).mono L2).put (r1.mono L2)).put r2) S2⟩
              | _ => cases h
            | _ => cases h
          | _ => cases h
      | _ => cases h
  | par3 i j l a b c =>
    cases x <;> first | (exact absurd h Bool.false_ne_true) | skip
    rename_i tgs v p
    match tgs, h with
    | [], h => exact absurd h Bool.false_ne_true
    | _ :: _ :: _, h => cases h
    | [tg], h =>
      cases tg <;> first | (exact absurd h Bool.false_ne_true) | skip
      rename_i ts kt pt
      match ts, h with
      | [], h => exact absurd h Bool.false_ne_true
      | [_], h => exact absurd h Bool.false_ne_true
      | [_, _], h => exact absurd h Bool.false_ne_true
      | _ :: _ :: _ :: _ :: _, h => exact absurd h Bool.false_ne_true
      | [t1, t2, t3], h =>
        cases t1 <;> first | (exact absurd h Bool.false_ne_true) | skip
        rename_i y py
        cases t2 <;> first | (exact absurd h Bool.false_ne_true) | skip
        rename_i z pz
        cases t3 <;> first | (exact absurd h Bool.false_ne_true) | skip
        rename_i w pw
        obtain ⟨vs, k2, pt2, rfl⟩ : ∃ vs k2 pt2, v = .Tuple vs k2 pt2 := by
          cases v <;> first | (exact absurd h Bool.false_ne_true) | exact ⟨_, _, _, rfl⟩
        match vs, h with
        | [], h => exact absurd h Bool.false_ne_true
        | [_], h => exact absurd h Bool.false_ne_true
        | [_, _], h => exact absurd h Bool.false_ne_true
        | _ :: _ :: _ :: _ :: _, h => exact absurd h Bool.false_ne_true
        | [v1, v2, v3], h =>
          obtain ⟨h, q3⟩ := b_and (show (par3Ok C i j l y z w py pz pw v1 v2 v3 && chkE a C v1 && chkE b C v2 && chkE c C v3) = true from h)
          obtain ⟨h, q2⟩ := b_and h
          obtain ⟨h, q1⟩ := b_and h
          obtain ⟨h, g16⟩ := b_and h
          obtain ⟨h, g15⟩ := b_and h
          obtain ⟨h, g14⟩ := b_and h
          obtain ⟨h, g13⟩ := b_and h
          obtain ⟨h, g12⟩ := b_and h
          obtain ⟨h, g11⟩ := b_and h
          obtain ⟨h, g10⟩ := b_and h
          obtain ⟨h, g9⟩ := b_and h
          obtain ⟨h, g8⟩ := b_and h
          obtain ⟨h, g7⟩ := b_and h
          obtain ⟨h, g6⟩ := b_and h
          obtain ⟨h, g5⟩ := b_and h
          obtain ⟨h, g4⟩ := b_and h
          obtain ⟨h, g3⟩ := b_and h
          obtain ⟨g1, g2⟩ := b_and h
          obtain ⟨n1, l1⟩ := b_and g1
          obtain ⟨n2, l2⟩ := b_and g2
          obtain ⟨n3, l3⟩ := b_and g3
          have g4 := of_decide_eq_true g4
          have g5 := of_decide_eq_true g5
          have g6 := of_decide_eq_true g6
          have g7 := of_decide_eq_true g7
          have g8 := of_decide_eq_true g8
          have g9 := of_decide_eq_true g9
          have ll : ∀ {u : Str}, decide (C.sc.names.lookup u = some .local) = true → X.env.scope.names.lookup u = some .local := fun q => by rw [k.sc]; exact of_decide_eq_true q
          have nn : ∀ {i : Nat} {u : Str}, decide (C.N[i]? = some u) = true → X.N[i]? = some u := fun q => by rw [k.N]; exact of_decide_eq_true q
          refine impS (ps_par3 k.calm (nd k) (nn n1) (nn n2) (nn n3) g4 g5 g6 (ll l1) (ll l2) (ll l3) (pa_cons (S.e _ _ q1) (pa_cons (S.e _ _ q2) (pa_cons (S.e _ _ q3) pa_nil (star_cons g14)) (star_cons g13)) (star_cons g12))
            (par3_w (by rw [k.sc]; exact k.kd) (ll l1) (ll l2) (ll l3) g7 g8 g9 g10 g11 g12 g13 g14 (not_b g15) (not_b g16)) rfl) fun D σ H ⟨μ, env, st, hE, hS, q⟩ => ?_
          refine seqE hz hE hS q fun d st1 μ1 v H1 L1 r1 S1 q1 => seqE hz (hE.mono L1) S1 q1 fun d2 st2 μ2 w H2 L2 r2 S2 q2 => seqE hz ((hE.mono L1).mono L2) S2 q2 fun d3 st3 μ3 w3 H3 L3 r3 S3 q3 => ?_
          exact ⟨v, w, w3, rfl, (show PostS X.K μ H (.nx (((env.put i d).put j d2).put l d3)) st3 D from q3) μ3 _ H3 ((L1.trans L2).trans L3) (((((((hE.mono L1).mono L2).mono L3).put ((r1.mono L2).mono L3)).put (r2.mono L3)).put r3)) S3⟩
  | mul t u a b =>
    cases x <;> first | (exact absurd h Bool.false_ne_true) | skip
    rename_i tgs v p
    match tgs, h with
    | [], h => exact absurd h Bool.false_ne_true
    | _ :: _ :: _, h => cases h
    | [tg], h =>
      cases tg <;> first | (exact absurd h Bool.false_ne_true) | skip
      rename_i ts kt pt
      match ts, h with
      | [], h => exact absurd h Bool.false_ne_true
      | [_], h => exact absurd h Bool.false_ne_true
      | _ :: _ :: _ :: _, h => exact absurd h Bool.false_ne_true
      | [t1, t2], h =>
        obtain ⟨vs, k2, pt2, rfl⟩ : ∃ vs k2 pt2, v = .Tuple vs k2 pt2 := by
          cases v <;> first | (exact absurd h Bool.false_ne_true) | exact ⟨_, _, _, rfl⟩
        match vs, h with
        | [], h => exact absurd h Bool.false_ne_true
        | [_], h => exact absurd h Bool.false_ne_true
        | _ :: _ :: _ :: _, h => exact absurd h Bool.false_ne_true
        | [v1, v2], h =>
          obtain ⟨h, h7⟩ := b_and (show (chkGt t C t1 && chkGt u C t2 && (nlB C t1 || nlB C t2 || (foldedForSure 8 v1 && foldedForSure 8 v2)) && nst v1 && nst v2 && chkE a C v1 && chkE b C v2) = true from h)
          obtain ⟨h, h6⟩ := b_and h
          obtain ⟨h, h5⟩ := b_and h
          obtain ⟨h, h4⟩ := b_and h
          obtain ⟨h, h3⟩ := b_and h
          obtain ⟨h1, h2⟩ := b_and h
          obtain ⟨g1, m1⟩ := gt_ok k hu S t t1 h1
          obtain ⟨g2, m2⟩ := gt_ok k hu S u t2 h2
          exact s_mul k.calm hz (S.e _ _ h6) (S.e _ _ h7) h4 h5 g1 g2 m1 m2 rfl (mul_w k.sc h3)
  | ife cc a b =>
    cases x <;> first | (exact absurd h Bool.false_ne_true) | skip
    obtain ⟨h, h3⟩ := b_and h
    obtain ⟨h1, h2⟩ := b_and h
    exact s_ife hz (S.t _ _ h1) (S.ss _ _ h2) (S.ss _ _ h3)
  | whl cc b =>
    cases x <;> first | (exact absurd h Bool.false_ne_true) | skip
    rename_i t u w p
    cases w with
    | cons _ _ => cases h
    | nil =>
      obtain ⟨h1, h2⟩ := b_and h
      exact s_whl hz k.po (S.t _ _ h1) (S.ss _ _ h2)
  | fr t it b =>
    cases x <;> first | (exact absurd h Bool.false_ne_true) | skip
    rename_i tg iter u w p
    cases w with
    | cons _ _ => cases h
    | nil =>
      obtain ⟨h, h6⟩ := b_and h
      obtain ⟨h, h5⟩ := b_and h
      obtain ⟨h, h4⟩ := b_and h
      obtain ⟨h, h3⟩ := b_and h
      obtain ⟨h1, h2⟩ := b_and h
      have tgt : prB it = true → ∃ es kk p, tg = .Tuple es kk p := fun hpr => by
        have hnm : t.isNm = false := by
          rw [hpr] at h5
          simpa using h5
        cases t with
        | nm _ => cases hnm
        | nil => cases tg <;> first | (exact absurd h2 Bool.false_ne_true) | exact ⟨_, _, _, rfl⟩
        | cons _ _ => cases tg <;> first | (exact absurd h2 Bool.false_ne_true) | exact ⟨_, _, _, rfl⟩
      refine s_fr hz k.po k.calm (S.i it iter h3 tg tgt) h1 (g_ok k t tg h2) (S.ss _ _ h6) (comp_set (not_b h4) X.env) ?_
      cases hb : prB it with
      | true =>
        rw [hb] at h5
        exact .inl (by simpa using h5)
      | false => exact .inr (pr_ok hb)
  | nev => exact s_nev
  | _ => cases h
theorem ss_ok (k : CtxOk P c C X) (S : Sound P n c C X) : ∀ s xs, chkSs s C xs = true → PSs X xs (tS X.K Z0 (ev P (n + 1) c) s) := by
  intro s xs h
  rw [ev_succ]
  cases s with
  | skip =>
    cases xs with
    | nil => exact s_skip
    | cons _ _ => cases h
  | seq a b =>
    cases xs with
    | nil => cases h
    | cons x xs =>
      obtain ⟨h1, h2⟩ := b_and h
      exact s_seq z0_mono (S.s _ _ h1) (S.ss _ _ h2)
  | nev => exact s_nevs
  | _ => cases h
end
/-- the runner is right -/
theorem sound (P : List Fn) : ∀ (n c : Nat) (C : Ctx) (X : Cx), CtxOk P c C X → Sound P n c C X := by
  intro n
  induction n using Nat.strongRecOn with
  | _ n ih =>
    intro c C X k
    cases n with
    | zero => exact sound0
    | succ n =>
      have ih' : ∀ m, m ≤ n → ∀ (c : Nat) (C : Ctx) (X : Cx), CtxOk P c C X → Sound P m c C X := fun m hm => ih m (Nat.lt_succ_of_le hm)
      have S := ih' n (Nat.le_refl n) c C X k
      exact ⟨e_ok k ih', k_ok k S, es_ok k S, t_ok k (fun m hm => ih' m hm c C X k), i_ok k S, s_ok k ih', ss_ok k S⟩
end Ev
end

section
set_option Elab.async false
set_option linter.all false
set_option maxRecDepth 100000
set_option maxHeartbeats 4000000
/-! Snd23: a law's end. -/
namespace Ev
open PySem PySem.Spec L2
theorem ro_of {K : PySem.W.Frag} {H : Hp} {a : Addr} {xs : List V} (h : SqL K H a xs) (o : Only H) : Ro K H a xs := by
  rcases h with (h | ⟨ob, h⟩) | h
  · rcases o a with e | ⟨ob, ys, e⟩ <;> (rw [e] at h; cases h)
  · exact .inl ⟨ob, h⟩
  · exact .inr h
/-- the law's def keeps its promise -/
theorem fn_law {P : List Fn} {fs : List Str} {cs : List (Str × D)} {im : List Blt} {n c i : Nat} {fn : Fn} {prog : Program} {w : World} {K : PySem.W.Frag} {mg : Str → Option Value} {base : Heap} {f : Addr} {fd : FuncData} {ps N : List Str} {nm qual : Str} {params : Arguments} {body : List Stmt} {scope : Scope}
    (pr : PrgOk prog w K mg P fs cs im) (hi : nth P i = some fn) (F : FunD K nm qual params body scope [] [] f fd) (S : FnScope N ps scope) (hps : ps.length = fn.ps) (hns : N.length = fn.ns) (hck : chkSs fn.body ⟨N, scope, none, fs, cs, im⟩ body = true) :
    FnOk prog w K mg base CX0 (c + 1) f fd ps (spF K P (ev P n c) i) := by
  refine F.ok S (fun vs H Q E ⟨⟨f', hf, hl⟩, _⟩ => by rw [hi] at hf; cases hf; rw [hl, hps]) fun cdv A outer s H vs Q E hr hsp => ?_
  have k : CtxOk P c ⟨N, scope, none, fs, cs, im⟩ (cxOf CX0 prog w K mg base N qual scope f cdv A outer s H E) := ⟨rfl, S.nd, rfl, S.kind, rfl, fun _ _ => rfl, hr, pr, PassesOwn.leaving⟩
  have hpl : ps.length ≤ N.length := by
    have := congrArg List.length S.pre
    rw [List.length_take] at this
    omega
  exact ⟨tS K Z0 (ev P n c) fn.body, (sound P n c _ _ k).ss fn.body body hck, body_ok hi hns (by omega) hsp⟩
theorem sp_law {K : PySem.W.Frag} {P : List Fn} {rc : Ev} {i : Nat} {fn : Fn} (hi : nth P i = some fn) (hps : fn.ps = 1) {H : Hp} {a : Addr} {ns : List Int} {E : XK} (hO : Only H) (hS : SqL K H a (ns.map V.int)) (hrun : ∃ st', callF P rc i [.rol ns] [] = .ok (.bl true) st') :
    spF K P rc i [.ref a] H (fun v _ => v = .bl true) E := by
  obtain ⟨st', e⟩ := hrun
  refine ⟨⟨fn, hi, hps.symm⟩, [], [.rol ns], [], ⟨rfl, List.nodup_nil, fun l a o e => by simp at e⟩, ⟨.ref a, [], rfl, ⟨a, rfl, ro_of hS hO⟩, rfl⟩, ?_⟩
  rw [e]
  exact fun μ' v H' L r S => r
/-- a def's scope, by a look -/
def scB (N ps : List Str) (sc : Scope) : Bool := decide (sc.kind = .function) && !sc.isCoroutine && !sc.isGenerator && decide N.Nodup && decide (N.take ps.length = ps) && (ps.all fun x => match sc.names.lookup x with | some .local => true | some .cell => true | _ => false) && (sc.names.all fun y => decide (y.2 ≠ .free))
theorem sc_ok {N ps : List Str} {sc : Scope} (h : scB N ps sc = true) : FnScope N ps sc := by
  obtain ⟨h, h7⟩ := b_and h
  obtain ⟨h, h6⟩ := b_and h
  obtain ⟨h, h5⟩ := b_and h
  obtain ⟨h, h4⟩ := b_and h
  obtain ⟨h, h3⟩ := b_and h
  obtain ⟨h1, h2⟩ := b_and h
  refine ⟨of_decide_eq_true h1, by simpa using h2, by simpa using h3, of_decide_eq_true h4, of_decide_eq_true h5, fun x hx => ?_, fun y hy => of_decide_eq_true (List.all_eq_true.mp h7 y hy)⟩
  have q := List.all_eq_true.mp h6 x hx
  cases e : sc.names.lookup x with
  | none => simp only [e] at q; cases q
  | some k =>
    simp only [e] at q
    cases k <;> first | exact .inl rfl | exact .inr rfl | cases q
theorem nth_cons {P : Nat → Fn → Prop} {f : Fn} {l : List Fn} {k : Nat} (h0 : P k f) (h : ∀ i fn, nth l i = some fn → P (k + 1 + i) fn) : ∀ i fn, nth (f :: l) i = some fn → P (k + i) fn := by
  intro i fn e
  cases i with
  | zero =>
    cases (show some f = some fn from e)
    exact h0
  | succ i =>
    have := h i fn e
    rwa [show k + 1 + i = k + (i + 1) by omega] at this
theorem nth_nil {P : Nat → Fn → Prop} {k : Nat} : ∀ i fn, nth ([] : List Fn) i = some fn → P (k + i) fn := fun i fn e => by cases e
theorem con_int {mg : Str → Option Value} {x : Str} {i : Int} (h : ∃ t, mg x = some (.int i t)) : ∃ v u, mg x = some u ∧ RelV v u ∧ ∀ (K : PySem.W.Frag) μ H, Rep K μ H (.int i) v := by
  obtain ⟨t, h⟩ := h
  exact ⟨.int i, _, h, ⟨t, rfl⟩, fun _ _ _ => rfl⟩
theorem con_str {mg : Str → Option Value} {x z : Str} (h : ∃ t, mg x = some (.str z t)) : ∃ v u, mg x = some u ∧ RelV v u ∧ ∀ (K : PySem.W.Frag) μ H, Rep K μ H (.str z) v := by
  obtain ⟨t, h⟩ := h
  exact ⟨.str z, _, h, ⟨t, rfl⟩, fun _ _ _ => rfl⟩
end Ev
end

section
set_option autoImplicit false
set_option Elab.async false
set_option linter.all false
set_option maxRecDepth 100000
/-! The runner, step by step, for simp. -/
namespace Ev
open PySem (Str)
section
variable {P : List Fn} {n c : Nat} {env : Env} {st : Sto} {α β : Type}
@[simp] theorem r_bind (a : α) (st : Sto) (f : α → Sto → R β) : (R.ok a st).bind f = f a st := rfl
@[simp] theorem r_val (a : α) (st : Sto) : (R.ok a st).val = .ok a st := rfl
theorem r_cong {r q : R α} (f : α → Sto → R β) (h : r = q) : r.bind f = q.bind f := by rw [h]
@[simp] theorem okO_s (a : α) (st : Sto) : okO st (some a) = .ok a st := rfl
@[simp] theorem ofB_s (b : Bool) (st : Sto) : ofB st (some b) = .ok (.bl b) st := rfl
@[simp] theorem e_var' (i : Nat) : (ev P (n + 1) c).e (.var i) env st = okO st (env.get i) := by cases c <;> rfl
@[simp] theorem e_cst' (d : D) : (ev P (n + 1) c).e (.cst d) env st = .ok d st := by cases c <;> rfl
@[simp] theorem e_glb' (x : Str) (d : D) : (ev P (n + 1) c).e (.glb x d) env st = .ok d st := by cases c <;> rfl
@[simp] theorem e_bin' (o : Bop) (a b : E) : (ev P (n + 1) c).e (.bin o a b) env st = ((ev P n c).e a env st).bind fun x st => ((ev P n c).e b env st).bind fun y st => (binop o x y st).val := by cases c <;> rfl
@[simp] theorem e_cmp' (o : Cop) (a b : E) : (ev P (n + 1) c).e (.cmp o a b) env st = ((ev P n c).e a env st).bind fun x st => ((ev P n c).e b env st).bind fun y st => ofB st (cmpop o x y st) := by cases c <;> rfl
@[simp] theorem e_and' (a b : E) : (ev P (n + 1) c).e (.and a b) env st = ((ev P n c).e a env st).bind fun x st => (match x with | .bl true => (ev P n c).e b env st | .bl false => .ok (.bl false) st | _ => .no) := by cases c <;> rfl
@[simp] theorem e_or' (a b : E) : (ev P (n + 1) c).e (.or a b) env st = ((ev P n c).e a env st).bind fun x st => (match x with | .bl false => (ev P n c).e b env st | .bl true => .ok (.bl true) st | _ => .no) := by cases c <;> rfl
@[simp] theorem e_not' (a : E) : (ev P (n + 1) c).e (.not a) env st = ((ev P n c).e a env st).bind fun x st => (match x with | .bl b => .ok (.bl (!b)) st | _ => .no) := by cases c <;> rfl
@[simp] theorem e_neg' (a : E) : (ev P (n + 1) c).e (.neg a) env st = ((ev P n c).e a env st).bind fun x st => (match x with | .int i => .ok (.int (-i)) st | _ => .no) := by cases c <;> rfl
@[simp] theorem e_ifx' (t a b : E) : (ev P (n + 1) c).e (.ifx t a b) env st = ((ev P n c).t t env st).bind fun x st => if x then (ev P n c).e a env st else (ev P n c).e b env st := by cases c <;> rfl
@[simp] theorem e_tup' (es : E) : (ev P (n + 1) c).e (.tup es) env st = ((ev P n c).es es env st).bind fun ds st => if small ds.length then .ok (.tup ds) st else .no := by cases c <;> rfl
@[simp] theorem e_lst' (es : E) : (ev P (n + 1) c).e (.lst es) env st = ((ev P n c).es es env st).bind fun ds st => if small ds.length then new (.lst ds) st else .no := by cases c <;> rfl
@[simp] theorem e_idx' (a i : E) : (ev P (n + 1) c).e (.idx a i) env st = ((ev P n c).e a env st).bind fun x st => ((ev P n c).e i env st).bind fun y st => (item x y st).val := by cases c <;> rfl
@[simp] theorem e_slc' (a lo hi : E) : (ev P (n + 1) c).e (.slc a lo hi) env st = ((ev P n c).e a env st).bind fun x st => (opt (ev P n c).e lo env st).bind fun l st => (opt (ev P n c).e hi env st).bind fun h st => (cut x l h st).val := by cases c <;> rfl
@[simp] theorem e_rpl' (a : E) (y z : Str) : (ev P (n + 1) c).e (.rpl a y z) env st = ((ev P n c).e a env st).bind fun x st => (match x with
      | .str s => if Nat.ble 1 y.length && Nat.ble (s.length + (s.length + 1) * z.length) line then .ok (.str (ofChars (rplS y.cps.toList z.cps.toList 0 s.cps.toList))) st else .no
      | _ => .no) := by cases c <;> rfl
@[simp] theorem e_call' (f : Nat) (es : E) : (ev P (n + 1) (c + 1)).e (.call f es) env st = ((ev P n (c + 1)).es es env st).bind fun ds st => callF P (ev P n c) f ds st := rfl
@[simp] theorem e_blt' (b : Blt) (es : E) : (ev P (n + 1) c).e (.blt b es) env st = (match asRng (oneE es) with
      | some as => (rngR (ev P n c).e as env st).bind fun xs st => (match b with
        | .list => if small xs.length then new (.lst xs) st else .no
        | .tuple => if small xs.length then .ok (.tup xs) st else .no
        | _ => .no)
      | none => ((ev P n c).es es env st).bind fun ds st => (bltA b ds st).val) := by cases c <;> rfl
@[simp] theorem e_mth' (m : Mth) (o es : E) : (ev P (n + 1) c).e (.mth m o es) env st = ((ev P n c).e o env st).bind fun x st => (match kdOf x st with
      | some k => if hasM k m then ((ev P n c).es es env st).bind fun ds st => (mthV k m x ds st).val else .no
      | none => .no) := by cases c <;> rfl
@[simp] theorem e_isi' (t : Ty) (e : E) : (ev P (n + 1) c).e (.isi t e) env st = ((ev P n c).e e env st).bind fun x st => ofB st (isTy t x st) := by cases c <;> rfl
@[simp] theorem e_lc' (vs : List Nat) (t : T) (it k e : E) : (ev P (n + 1) c).e (.lc vs t it k e) env st = locked (lockOf it env st) (fun st => ((ev P n c).i it env st).bind fun it st => if small it.items.length then (lcGo (ev P n c) t k e (env.wipe vs) it.src it.items [] st).bind fun ds st => new (.lst ds) st else .no) st := by cases c <;> rfl
@[simp] theorem es_nil' : (ev P (n + 1) c).es .nil env st = .ok [] st := by cases c <;> rfl
@[simp] theorem es_cons' (e q : E) : (ev P (n + 1) c).es (.cons e q) env st = ((ev P n c).e e env st).bind fun d st => ((ev P n c).es q env st).bind fun ds st => .ok (d :: ds) st := by cases c <;> rfl
@[simp] theorem t_none' : (ev P (n + 1) c).t .none env st = .ok true st := by cases c <;> rfl
@[simp] theorem t_and' (a b : E) : (ev P (n + 1) c).t (.and a b) env st = ((ev P n c).t a env st).bind fun x st => if x then (ev P n c).t b env st else .ok false st := by cases c <;> rfl
@[simp] theorem t_or' (a b : E) : (ev P (n + 1) c).t (.or a b) env st = ((ev P n c).t a env st).bind fun x st => if x then .ok true st else (ev P n c).t b env st := by cases c <;> rfl
@[simp] theorem t_not' (a : E) : (ev P (n + 1) c).t (.not a) env st = ((ev P n c).t a env st).bind fun x st => .ok (!x) st := by cases c <;> rfl
@[simp] theorem t_val' (e : E) : (ev P (n + 1) c).t (.val e) env st = ((ev P n c).e e env st).bind fun d st => okO st (truth st d) := by cases c <;> rfl
@[simp] theorem i_range' (es : E) : (ev P (n + 1) c).i (.blt .range es) env st = (rngR (ev P n c).e es env st).bind fun xs st => .ok ⟨xs, [], false⟩ st := by cases c <;> rfl
@[simp] theorem i_val' (e : E) : (ev P (n + 1) c).i (.val e) env st = ((ev P n c).e e env st).bind fun d st => okO st (itOf d st) := by cases c <;> rfl
@[simp] theorem s_skip' : (ev P (n + 1) c).s .skip env st = .ok (.nx env) st := by cases c <;> rfl
@[simp] theorem s_seq' (a b : S) : (ev P (n + 1) c).s (.seq a b) env st = ((ev P n c).s a env st).bind fun o st => (match o with | .nx env => (ev P n c).s b env st | o => .ok o st) := by cases c <;> rfl
@[simp] theorem s_exp' (e : E) : (ev P (n + 1) c).s (.exp e) env st = ((ev P n c).e e env st).bind fun _ st => .ok (.nx env) st := by cases c <;> rfl
@[simp] theorem s_ret' (e : E) : (ev P (n + 1) c).s (.ret e) env st = ((ev P n c).e e env st).bind fun d st => .ok (.rt d) st := by cases c <;> rfl
@[simp] theorem s_retn' : (ev P (n + 1) c).s .retn env st = .ok (.rt .non) st := by cases c <;> rfl
@[simp] theorem s_brk' : (ev P (n + 1) c).s .brk env st = .ok (.bk env) st := by cases c <;> rfl
@[simp] theorem s_cnt' : (ev P (n + 1) c).s .cnt env st = .ok (.ct env) st := by cases c <;> rfl
@[simp] theorem s_asg' (t : T) (e : E) : (ev P (n + 1) c).s (.asg t e) env st = ((ev P n c).e e env st).bind fun d st => (match T.take t d env with | some env => .ok (.nx env) st | none => .no) := by cases c <;> rfl
@[simp] theorem s_sto' (o i e : E) : (ev P (n + 1) c).s (.sto o i e) env st = ((ev P n c).e e env st).bind fun d st => ((ev P n c).e o env st).bind fun x st => ((ev P n c).e i env st).bind fun y st => (store x y d st).val.bind fun _ st => .ok (.nx env) st := by cases c <;> rfl
@[simp] theorem s_aug' (i : Nat) (o : Bop) (e : E) : (ev P (n + 1) c).s (.aug i o e) env st = (match env.get i with
      | some x => ((ev P n c).e e env st).bind fun y st => (iop o x y st).val.bind fun z st => .ok (.nx (env.put i z)) st
      | none => .no) := by cases c <;> rfl
@[simp] theorem s_par' (i j : Nat) (a b : E) : (ev P (n + 1) c).s (.par i j a b) env st = ((ev P n c).e a env st).bind fun x st => ((ev P n c).e b env st).bind fun y st => .ok (.nx ((env.put i x).put j y)) st := by cases c <;> rfl
@[simp] theorem s_ife' (t : E) (a b : S) : (ev P (n + 1) c).s (.ife t a b) env st = ((ev P n c).t t env st).bind fun x st => if x then (ev P n c).s a env st else (ev P n c).s b env st := by cases c <;> rfl
@[simp] theorem s_whl' (t : E) (b : S) : (ev P (n + 1) c).s (.whl t b) env st = whGo (ev P n c) t b n env st := by cases c <;> rfl
@[simp] theorem s_fr' (t : T) (it : E) (b : S) : (ev P (n + 1) c).s (.fr t it b) env st = locked (lockOf it env st) (fun st => ((ev P n c).i it env st).bind fun it st => frGo (ev P n c) t b it.src it.items env st) st := by cases c <;> rfl
@[simp] theorem locked_none (f : Sto → R α) (st : Sto) : locked none f st = f st := rfl
@[simp] theorem opt_none (f : E → Env → Sto → R D) (env : Env) (st : Sto) : opt f .none env st = .ok none st := rfl
@[simp] theorem opt_var (f : E → Env → Sto → R D) (i : Nat) (env : Env) (st : Sto) : opt f (.var i) env st = (f (.var i) env st).bind fun d st => match d with
    | .int i => .ok (some i) st
    | _ => .no := rfl
@[simp] theorem opt_cst (f : E → Env → Sto → R D) (d : D) (env : Env) (st : Sto) : opt f (.cst d) env st = (f (.cst d) env st).bind fun d st => match d with
    | .int i => .ok (some i) st
    | _ => .no := rfl
@[simp] theorem opt_bin (f : E → Env → Sto → R D) (o : Bop) (a b : E) (env : Env) (st : Sto) : opt f (.bin o a b) env st = (f (.bin o a b) env st).bind fun d st => match d with
    | .int i => .ok (some i) st
    | _ => .no := rfl
@[simp] theorem get_0 (d : Option D) (r : Env) : Env.get (d :: r) 0 = d := rfl
@[simp] theorem get_s (d : Option D) (r : Env) (i : Nat) : Env.get (d :: r) (i + 1) = Env.get r i := rfl
@[simp] theorem put_0 (d : Option D) (r : Env) (x : D) : Env.put (d :: r) 0 x = some x :: r := rfl
@[simp] theorem put_s (d : Option D) (r : Env) (i : Nat) (x : D) : Env.put (d :: r) (i + 1) x = d :: Env.put r i x := rfl
@[simp] theorem cut_0 (d : Option D) (r : Env) : Env.cut (d :: r) 0 = none :: r := rfl
@[simp] theorem cut_s (d : Option D) (r : Env) (i : Nat) : Env.cut (d :: r) (i + 1) = d :: Env.cut r i := rfl
@[simp] theorem wipe_n (env : Env) : Env.wipe env [] = env := rfl
@[simp] theorem wipe_c (env : Env) (v : Nat) (vs : List Nat) : Env.wipe env (v :: vs) = Env.cut (Env.wipe env vs) v := rfl
@[simp] theorem new_n (ds : List D) : Env.new 0 ds = [] := by cases ds <;> rfl
@[simp] theorem new_sn (n : Nat) : Env.new (n + 1) [] = none :: Env.new n [] := rfl
@[simp] theorem new_sc (n : Nat) (d : D) (ds : List D) : Env.new (n + 1) (d :: ds) = some d :: Env.new n ds := rfl
@[simp] theorem take_nm (i : Nat) (d : D) (env : Env) : T.take (.nm i) d env = some (env.put i d) := by cases d <;> rfl
@[simp] theorem take_nil (env : Env) : T.take .nil (.tup []) env = some env := rfl
@[simp] theorem take_cons (t r : T) (x : D) (xs : List D) (env : Env) : T.take (.cons t r) (.tup (x :: xs)) env = (match T.take t x env with
        | some env => T.take r (.tup xs) env
        | none => none) := rfl
@[simp] theorem sget_0 (o : O) (r : Sto) : sget (o :: r) 0 = some o := rfl
@[simp] theorem sget_s (o : O) (r : Sto) (i : Nat) : sget (o :: r) (i + 1) = sget r i := rfl
@[simp] theorem sput_0 (o p : O) (r : Sto) : sput (o :: r) 0 p = p :: r := rfl
@[simp] theorem sput_s (o p : O) (r : Sto) (i : Nat) : sput (o :: r) (i + 1) p = o :: sput r i p := rfl
theorem sget_app : ∀ (r : Sto) (o : O) (q : Sto), sget (r ++ o :: q) r.length = some o
  | [], _, _ => rfl
  | _ :: r, o, q => sget_app r o q
@[simp] theorem sget_end (r : Sto) (o : O) : sget (r ++ [o]) r.length = some o := sget_app r o []
@[simp] theorem sget_end2 (a : O) (r : Sto) (o : O) : sget (a :: (r ++ [o])) (r.length + 1) = some o := sget_app (a :: r) o []
@[simp] theorem sget_end3 (a b : O) (r : Sto) (o : O) : sget (a :: b :: (r ++ [o])) (r.length + 1 + 1) = some o := sget_app (a :: b :: r) o []
theorem sput_app : ∀ (r : Sto) (o p : O) (q : Sto), sput (r ++ o :: q) r.length p = r ++ p :: q
  | [], _, _, _ => rfl
  | a :: r, o, p, q => by
    show a :: sput (r ++ o :: q) r.length p = _
    rw [sput_app r o p q]; rfl
@[simp] theorem nth_0 {α : Type} (x : α) (r : List α) : nth (x :: r) 0 = some x := rfl
@[simp] theorem nth_s {α : Type} (x : α) (r : List α) (i : Nat) : nth (x :: r) (i + 1) = nth r i := rfl
@[simp] theorem place_nat (n k : Nat) (h : k < n) : place n (k : Int) = some k := by
  show (if Nat.blt k n then some k else none) = some k
  rw [if_pos (by simpa [Nat.blt_eq] using h)]
theorem nth_get {α : Type} : ∀ (r : List α) (k : Nat), nth r k = r[k]?
  | [], _ => by simp [nth]
  | _ :: _, 0 => rfl
  | _ :: r, k + 1 => by simpa using nth_get r k
theorem at_nat {α : Type} (xs : List α) (k : Nat) (h : k < xs.length) : at_ xs (k : Int) = some xs[k] := by
  unfold at_
  rw [place_nat _ _ h]
  simp [nth_get, h]
@[simp] theorem whGo_s (r : Ev) (t : E) (b : S) (k : Nat) (env : Env) (st : Sto) : whGo r t b (k + 1) env st = (r.t t env st).bind fun x st => if x then (r.s b env st).bind fun o st => (match o with
      | .nx env => whGo r t b k env st
      | .ct env => whGo r t b k env st
      | .bk env => .ok (.nx env) st
      | .rt d => .ok (.rt d) st) else .ok (.nx env) st := rfl
@[simp] theorem frGo_n (r : Ev) (t : T) (b : S) (env : Env) (st : Sto) : frGo r t b [] [] env st = .ok (.nx env) st := rfl
@[simp] theorem frGo_c (r : Ev) (t : T) (b : S) (x : D) (xs : List D) (env : Env) (st : Sto) : frGo r t b [] (x :: xs) env st = (match T.take t x env with
    | some env' => (r.s b env' st).bind fun o st => (match o with
      | .nx env => frGo r t b [] xs env st
      | .ct env => frGo r t b [] xs env st
      | .bk env => .ok (.nx env) st
      | .rt d => .ok (.rt d) st)
    | none => .no) := rfl
@[simp] theorem lcGo_n (r : Ev) (t : T) (k e : E) (env : Env) (acc : List D) (st : Sto) : lcGo r t k e env [] [] acc st = .ok acc.reverse st := rfl
@[simp] theorem lcGo_c (r : Ev) (t : T) (k e : E) (env : Env) (x : D) (xs acc : List D) (st : Sto) : lcGo r t k e env [] (x :: xs) acc st = (match T.take t x env with
    | some env' => (r.t k env' st).val.bind fun b st => if b then (r.e e env' st).val.bind fun d st => lcGo r t k e env [] xs (d :: acc) st else lcGo r t k e env [] xs acc st
    | none => .no) := rfl
@[simp] theorem at_0 {α : Type} (x : α) (xs : List α) : at_ (x :: xs) 0 = some x := at_nat (x :: xs) 0 (by simp)
@[simp] theorem at_1 {α : Type} (x y : α) (xs : List α) : at_ (x :: y :: xs) 1 = some y := at_nat (x :: y :: xs) 1 (by simp)
@[simp] theorem at_2 {α : Type} (x y z : α) (xs : List α) : at_ (x :: y :: z :: xs) 2 = some z := at_nat (x :: y :: z :: xs) 2 (by simp)
@[simp] theorem at_3 {α : Type} (x y z w : α) (xs : List α) : at_ (x :: y :: z :: w :: xs) 3 = some w := at_nat (x :: y :: z :: w :: xs) 3 (by simp)
@[simp] theorem place_0 (n : Nat) (h : 0 < n) : place n 0 = some 0 := place_nat n 0 h
@[simp] theorem place_1 (n : Nat) (h : 1 < n) : place n 1 = some 1 := place_nat n 1 h
/-- a test that fails is passed by -/
theorem seq_f {t : E} {a b : S} (h : (ev P (n + 1) c).t t env st = .ok false st) : (ev P (n + 3) c).s (.seq (.ife t a .skip) b) env st = (ev P (n + 2) c).s b env st := by
  rw [s_seq', s_ife', h]
  simp only [r_bind, if_false, Bool.false_eq_true, s_skip']
/-- a test that holds -/
theorem seq_t {t : E} {a b : S} (h : (ev P (n + 1) c).t t env st = .ok true st) : (ev P (n + 3) c).s (.seq (.ife t a .skip) b) env st = ((ev P (n + 1) c).s a env st).bind fun o st => (match o with | .nx env => (ev P (n + 2) c).s b env st | o => .ok o st) := by
  rw [s_seq', s_ife', h]
  simp only [r_bind, if_true]
/-- … and leaves with a value -/
theorem seq_tr {t : E} {a b : S} {d : D} {st' : Sto} (h : (ev P (n + 1) c).t t env st = .ok true st) (h2 : (ev P (n + 1) c).s a env st = .ok (.rt d) st') : (ev P (n + 3) c).s (.seq (.ife t a .skip) b) env st = .ok (.rt d) st' := by
  rw [seq_t h, h2]
  rfl
theorem seq_n {a b : S} {env' : Env} {st' : Sto} (h : (ev P n c).s a env st = .ok (.nx env') st') : (ev P (n + 1) c).s (.seq a b) env st = (ev P n c).s b env' st' := by
  rw [s_seq', h]
  rfl
theorem seq_r {a b : S} {d : D} {st' : Sto} (h : (ev P n c).s a env st = .ok (.rt d) st') : (ev P (n + 1) c).s (.seq a b) env st = .ok (.rt d) st' := by
  rw [s_seq', h]
  rfl
theorem ret_e {e : E} {d : D} {st' : Sto} (h : (ev P n c).e e env st = .ok d st') : (ev P (n + 1) c).s (.ret e) env st = .ok (.rt d) st' := by
  rw [s_ret', h]
  rfl
theorem retS {e : E} {b : S} {d : D} {st' : Sto} (h : (ev P n c).e e env st = .ok d st') : (ev P (n + 2) c).s (.seq (.ret e) b) env st = .ok (.rt d) st' := seq_r (ret_e h)
theorem asgS {i : Nat} {e : E} {b : S} {d : D} {st' : Sto} (h : (ev P n c).e e env st = .ok d st') : (ev P (n + 2) c).s (.seq (.asg (.nm i) e) b) env st = (ev P (n + 1) c).s b (env.put i d) st' := seq_n (by rw [s_asg', h]; simp)
theorem expS {e : E} {b : S} {d : D} {st' : Sto} (h : (ev P n c).e e env st = .ok d st') : (ev P (n + 2) c).s (.seq (.exp e) b) env st = (ev P (n + 1) c).s b env st' := seq_n (by rw [s_exp', h]; simp)
theorem frS {i : Nat} {it : E} {a b : S} {I : It} {env' : Env} {st1 st' : Sto} (hl : lockOf it env st = none) (hi : (ev P n c).i it env st = .ok I st1) (h : frGo (ev P n c) (.nm i) a I.src I.items env st1 = .ok (.nx env') st') : (ev P (n + 2) c).s (.seq (.fr (.nm i) it a) b) env st = (ev P (n + 1) c).s b env' st' := seq_n (by rw [s_fr', hl, locked_none, hi]; exact h)
theorem hr62 (m : Nat) (hm : m < 4611686018427387904) : inR62 (m : Int) = true := by
  unfold inR62
  simp
  omega
def onInt {β : Type} (x : D) (f : Int → β) (g : β) : β := match x with
  | .int n => f n
  | _ => g
theorem onInt_i {β : Type} (n : Int) (f : Int → β) (g : β) : onInt (.int n) f g = f n := rfl
theorem rngR1 (e : E → Env → Sto → R D) (a : E) (env : Env) (st : Sto) : rngR e (.cons a .nil) env st = (e a env st).bind fun x st => onInt x (fun n => if inR62 n then .ok (intsFrom 0 n.toNat) st else .no) .no := rfl
theorem rngR2 (e : E → Env → Sto → R D) (a : E) (env : Env) (st st' : Sto) (m : Nat) (hr : inR62 m = true) (h : e a env st = .ok (.int m) st') : rngR e (.cons a .nil) env st = .ok (intsFrom 0 m) st' := by
  rw [rngR1, h, r_bind, onInt_i, if_pos hr, Int.toNat_natCast]
theorem rng1 {a : E} {m : Nat} {st' : Sto} (h : (ev P n c).e a env st = .ok (.int m) st') (hm : m < 4611686018427387904) : (ev P (n + 1) c).i (.blt .range (.cons a .nil)) env st = .ok ⟨intsFrom 0 m, [], false⟩ st' := by
  rw [i_range', rngR2 _ a env st st' m (hr62 m hm) h, r_bind]
end
end Ev
end

section
set_option autoImplicit false
set_option Elab.async false
set_option linter.all false
set_option maxRecDepth 100000
/-! EL: the runner without a bound: what the runs come to. -/
namespace Ev
open PySem (Str)
/-- a relation on families of runs that all the runner's ways keep -/
structure Lift (ι : Type) where
  Rel : {α : Type} → (ι → R α) → Prop
  const : ∀ {α : Type} (x : R α), Rel fun _ => x
  bind : ∀ {α β : Type} {F : ι → R α} {G : ι → α → Sto → R β}, Rel F → (∀ a st, Rel fun i => G i a st) → Rel fun i => (F i).bind (G i)
  map : ∀ {α β : Type} {F : ι → R α} (g : R α → R β), g .no = .no → Rel F → Rel fun i => g (F i)
structure LiftEv {ι : Type} (L : Lift ι) (F : ι → Ev) : Prop where
  e : ∀ e env st, L.Rel fun i => (F i).e e env st
  es : ∀ e env st, L.Rel fun i => (F i).es e env st
  t : ∀ e env st, L.Rel fun i => (F i).t e env st
  i : ∀ e env st, L.Rel fun i => (F i).i e env st
  s : ∀ e env st, L.Rel fun i => (F i).s e env st
section
variable {ι : Type} {L : Lift ι} {F Fc : ι → Ev} {α β : Type}
theorem Lift.val {G : ι → R α} (h : L.Rel G) : L.Rel fun i => (G i).val := L.map R.val rfl h
theorem Lift.ite {G H : ι → R α} {b : Bool} (hg : L.Rel G) (hh : L.Rel H) : L.Rel fun i => if b = true then G i else H i := by
  cases b
  · simpa using hh
  · simpa using hg
theorem Lift.bindV {G : ι → R α} {H : ι → α → Sto → R β} (hg : L.Rel G) (hh : ∀ a st, L.Rel fun i => H i a st) : L.Rel fun i => (G i).val.bind (H i) := L.bind (L.val hg) hh
theorem Lift.locked {o : Option Nat} {G : ι → Sto → R α} {st : Sto} (h : ∀ st, L.Rel fun i => G i st) : L.Rel fun i => locked o (G i) st := by
  cases o with
  | none => exact h st
  | some l => exact L.map (F := fun i => G i (lock l st)) (fun r => match r with | .ok a st' => .ok a (unlock l st') | _ => .no) rfl (h _)
theorem lift_lcGo (h : LiftEv L F) (t : T) (c e : E) (env : Env) (src : List (Nat × O)) : ∀ (xs acc : List D) (st : Sto), L.Rel fun i => lcGo (F i) t c e env src xs acc st
  | [], acc, st => L.const (lcGo Ev.none t c e env src [] acc st)
  | x :: xs, acc, st => by
    unfold lcGo
    refine L.ite ?_ (L.const _)
    split
    · refine L.bindV (h.t _ _ _) fun b st => L.ite (L.bindV (h.e _ _ _) fun d st => lift_lcGo h t c e env src xs _ _) (lift_lcGo h t c e env src xs _ _)
    · exact L.const _
theorem lift_lcIn (h : LiftEv L F) (t : T) (c e : E) (env : Env) (src : List (Nat × O)) : ∀ (xs acc : List D) (st : Sto), L.Rel fun i => lcIn (F i) t c e env src xs acc st
  | [], acc, st => L.const (lcIn Ev.none t c e env src [] acc st)
  | x :: xs, acc, st => by
    unfold lcIn
    refine L.ite ?_ (L.const _)
    split
    · refine L.bindV (h.t _ _ _) fun b st => L.ite (L.bindV (h.e _ _ _) fun d st => L.ite (lift_lcIn h t c e env src xs _ _) (L.const _)) (lift_lcIn h t c e env src xs _ _)
    · exact L.const _
theorem lift_lcOut (h : LiftEv L F) (t : T) (it' : E) (t' : T) (c e : E) (env : Env) (src : List (Nat × O)) : ∀ (xs acc : List D) (st : Sto), L.Rel fun i => lcOut (F i) t it' t' c e env src xs acc st
  | [], acc, st => L.const (lcOut Ev.none t it' t' c e env src [] acc st)
  | x :: xs, acc, st => by
    unfold lcOut
    refine L.ite ?_ (L.const _)
    split
    · refine L.bindV (h.i _ _ _) fun it st => L.bind (lift_lcIn h _ _ _ _ _ _ _ _) fun acc st => lift_lcOut h t it' t' c e env src xs _ _
    · exact L.const _
theorem lift_dcGo (h : LiftEv L F) (t : T) (k v : E) (env : Env) (src : List (Nat × O)) : ∀ (xs : List D) (acc : List (D × D)) (st : Sto), L.Rel fun i => dcGo (F i) t k v env src xs acc st
  | [], acc, st => L.const (dcGo Ev.none t k v env src [] acc st)
  | x :: xs, acc, st => by
    unfold dcGo
    refine L.ite ?_ (L.const _)
    split
    · refine L.bindV (h.e _ _ _) fun b st => L.bindV (h.e _ _ _) fun d st => L.ite (lift_dcGo h t k v env src xs _ _) (L.const _)
    · exact L.const _
theorem lift_frGo (h : LiftEv L F) (t : T) (b : S) (src : List (Nat × O)) : ∀ (xs : List D) (env : Env) (st : Sto), L.Rel fun i => frGo (F i) t b src xs env st
  | [], env, st => L.const (frGo Ev.none t b src [] env st)
  | x :: xs, env, st => by
    unfold frGo
    refine L.ite ?_ (L.const _)
    split
    · refine L.bind (h.s _ _ _) fun o st => ?_
      cases o with
      | nx env => exact lift_frGo h t b src xs _ _
      | ct env => exact lift_frGo h t b src xs _ _
      | bk env => exact L.const _
      | rt d => exact L.const _
    · exact L.const _
theorem lift_call0 (h : LiftEv L F) (f : Fn) (ds : List D) (st : Sto) : L.Rel fun i => call0 (F i) f ds st := by
  unfold call0
  exact L.map (F := fun i => (body (F i) _ _ _).bind (fin _)) (fun r => match r with
          | .ok d st1 => lay _ d st1 st
          | .ex x _ => if D.lowL 0 x.fs then .ex x st else .no
          | .no => .no) rfl (L.bind (L.bind (h.s _ _ _) fun _ _ => L.const _) fun _ _ => L.const _)
theorem lift_callM (h : LiftEv L F) (m : Nat) (f : Fn) (ds : List D) (st : Sto) : L.Rel fun i => callM m (F i) f ds st := by
  unfold callM
  refine L.ite ?_ ?_
  · exact L.map (F := fun i => (body (F i) _ _ _).bind (fin _)) (fun r => match r with
          | .ok d st1 => lay _ d st1 st
          | .ex x _ => if D.lowL 0 x.fs then .ex x st else .no
          | .no => .no) rfl (L.bind (L.bind (h.s _ _ _) fun _ _ => L.const _) fun _ _ => L.const _)
  · exact L.bind (L.bind (h.s _ _ _) fun _ _ => L.const _) fun _ _ => L.const _
theorem lift_callF (P : List Fn) (h : LiftEv L F) (f : Nat) (ds : List D) (st : Sto) : L.Rel fun i => callF P (F i) f ds st := by
  unfold callF
  split
  · exact L.const _
  · exact L.ite (L.ite (lift_call0 h _ _ _) (lift_callM h _ _ _ _)) (L.const _)
theorem lift_opt (h : LiftEv L F) (e : E) (env : Env) (st : Sto) : L.Rel fun i => opt (F i).e e env st := by
  cases e <;> first
    | exact L.const _
    | exact L.bind (h.e _ _ _) fun d st => L.const _
theorem lift_rngR (h : LiftEv L F) (es : E) (env : Env) (st : Sto) : L.Rel fun i => rngR (F i).e es env st := by
  unfold rngR
  split
  · split
    · exact L.bind (h.e _ _ _) fun _ _ => L.const _
    · split
      · exact L.bind (h.e _ _ _) fun _ _ => L.bind (h.e _ _ _) fun _ _ => L.const _
      · split
        · exact L.bind (h.e _ _ _) fun _ _ => L.bind (h.e _ _ _) fun _ _ => L.bind (h.e _ _ _) fun _ _ => L.const _
        · exact L.const _
      · exact L.const _
    · exact L.const _
  · exact L.const _
theorem lift_take (h : LiftEv L F) (g : G) (d : D) (env : Env) (st : Sto) : L.Rel fun i => G.take (F i) g d env st := by
  cases g with
  | nm j => exact L.const _
  | sub o j => exact L.bind (h.e _ _ _) fun _ _ => L.bind (h.e _ _ _) fun _ _ => L.const _
def isWhl : S → Bool
  | .whl _ _ => true
  | _ => false
structure LiftStep {ι : Type} (L : Lift ι) (F : ι → Ev) : Prop where
  e : ∀ e env st, L.Rel fun i => (F i).e e env st
  es : ∀ e env st, L.Rel fun i => (F i).es e env st
  t : ∀ e env st, L.Rel fun i => (F i).t e env st
  i : ∀ e env st, L.Rel fun i => (F i).i e env st
  s : ∀ e env st, isWhl e = false → L.Rel fun i => (F i).s e env st
theorem lift_step (P : List Fn) (k : ι → Nat) (h : LiftEv L F) (hc : LiftEv L Fc) : LiftStep L fun i => step P (k i) (F i) (Fc i) where
  e := fun e env st => by
    cases e with
    | bin o a b => exact L.bind (h.e _ _ _) fun _ _ => L.bind (h.e _ _ _) fun _ _ => L.const _
    | neg a => exact L.bind (h.e _ _ _) fun _ _ => L.const _
    | cmp o a b => exact L.bind (h.e _ _ _) fun _ _ => L.bind (h.e _ _ _) fun _ _ => L.const _
    | cmp2 o p a b c =>
      refine L.bind (h.e _ _ _) fun x st => L.bind (h.e _ _ _) fun y st => ?_
      split
      · exact L.bind (h.e _ _ _) fun _ _ => L.const _
      · exact L.const _
      · exact L.const _
    | and a b =>
      refine L.bind (h.e _ _ _) fun x st => ?_
      split
      · exact h.e _ _ _
      · exact L.const _
      · exact L.const _
    | or a b =>
      refine L.bind (h.e _ _ _) fun x st => ?_
      split
      · exact h.e _ _ _
      · exact L.const _
      · exact L.const _
    | not a => exact L.bind (h.e _ _ _) fun _ _ => L.const _
    | ifx c a b => exact L.bind (h.t _ _ _) fun _ _ => L.ite (h.e _ _ _) (h.e _ _ _)
    | tup es => exact L.bind (h.es _ _ _) fun _ _ => L.const _
    | lst es => exact L.bind (h.es _ _ _) fun _ _ => L.const _
    | dc1 b k v => exact L.bind (h.e _ _ _) fun _ _ => L.bind (h.e _ _ _) fun _ _ => L.const _
    | idx a i => exact L.bind (h.e _ _ _) fun _ _ => L.bind (h.e _ _ _) fun _ _ => L.const _
    | slc a lo hi => exact L.bind (h.e _ _ _) fun _ _ => L.bind (lift_opt h _ _ _) fun _ _ => L.bind (lift_opt h _ _ _) fun _ _ => L.const _
    | rev a => exact L.bind (h.e _ _ _) fun _ _ => L.const _
    | rpl a y z => exact L.bind (h.e _ _ _) fun _ _ => L.const _
    | call f es => exact L.bind (h.es _ _ _) fun _ _ => lift_callF P hc _ _ _
    | blt b es =>
      show L.Rel fun i => (match asRng (oneE es) with
      | some as => (rngR (F i).e as env st).bind fun xs st => (match b with
        | .list => if small xs.length then new (.lst xs) st else .no
        | .tuple => if small xs.length then .ok (.tup xs) st else .no
        | _ => .no)
      | none => ((F i).es es env st).bind fun ds st => (bltA b ds st).val)
      split
      · exact L.bind (lift_rngR h _ _ _) fun _ _ => L.const _
      · exact L.bind (h.es _ _ _) fun _ _ => L.const _
    | mth m o es =>
      refine L.bind (h.e _ _ _) fun x st => ?_
      split
      · exact L.ite (L.bind (h.es _ _ _) fun _ _ => L.const _) (L.const _)
      · exact L.const _
    | mxd b a d => exact L.bind (h.e _ _ _) fun _ _ => L.bind (h.e _ _ _) fun _ _ => L.const _
    | vws o => exact L.bind (h.e _ _ _) fun _ _ => L.const _
    | isi t e => exact L.bind (h.e _ _ _) fun _ _ => L.const _
    | lc vs t it c e => exact L.locked (o := lockOf it env st) (G := fun i st => ((F i).i it env st).bind fun it st => if small it.items.length then (lcGo (F i) t c e (env.wipe vs) it.src it.items [] st).bind fun ds st => new (.lst ds) st else .no) (st := st) fun st => L.bind (h.i _ _ _) fun it st => L.ite (L.bind (lift_lcGo h _ _ _ _ _ _ _ _) fun _ _ => L.const _) (L.const _)
    | lc2 vs t it t' it' c e => exact L.bind (h.i _ _ _) fun it st => L.bind (lift_lcOut h _ _ _ _ _ _ _ _ _ _) fun _ _ => L.const _
    | dc vs t it k v => exact L.bind (h.i _ _ _) fun it st => L.bind (lift_dcGo h _ _ _ _ _ _ _ _) fun _ _ => L.const _
    | _ => exact L.const _
  es := fun e env st => by
    cases e with
    | cons a q => exact L.bind (h.e _ _ _) fun _ _ => L.bind (h.es _ _ _) fun _ _ => L.const _
    | _ => exact L.const _
  t := fun e env st => by
    cases e with
    | and a b => exact L.bind (h.t _ _ _) fun _ _ => L.ite (h.t _ _ _) (L.const _)
    | or a b => exact L.bind (h.t _ _ _) fun _ _ => L.ite (L.const _) (h.t _ _ _)
    | not a => exact L.bind (h.t _ _ _) fun _ _ => L.const _
    | val a => exact L.bind (h.e _ _ _) fun _ _ => L.const _
    | _ => exact L.const _
  i := fun e env st => by
    cases e with
    | blt b es =>
      cases b with
      | range => exact L.bind (lift_rngR h _ _ _) fun _ _ => L.const _
      | enumerate =>
        cases es with
        | cons a q =>
          cases q with
          | nil => exact L.bind (h.e _ _ _) fun _ _ => L.const _
          | _ => exact L.const _
        | _ => exact L.const _
      | zip =>
        cases es with
        | cons a q =>
          cases q with
          | cons b q =>
            cases q with
            | nil => exact L.bind (h.e _ _ _) fun _ _ => L.bind (h.e _ _ _) fun _ _ => L.const _
            | _ => exact L.const _
          | _ => exact L.const _
        | _ => exact L.const _
      | reversed =>
        show L.Rel fun i => (match asRng (oneE es) with
        | some as => (rngR (F i).e as env st).bind fun xs st => .ok (⟨xs.reverse, [], false⟩ : It) st
        | none => .no)
        split
        · exact L.bind (lift_rngR h _ _ _) fun _ _ => L.const _
        · exact L.const _
      | _ => exact L.const _
    | mth m o es =>
      cases m with
      | items =>
        cases es with
        | nil => exact L.bind (h.e _ _ _) fun _ _ => L.const _
        | _ => exact L.const _
      | values =>
        cases es with
        | nil => exact L.bind (h.e _ _ _) fun _ _ => L.const _
        | _ => exact L.const _
      | _ => exact L.const _
    | val a => exact L.bind (h.e _ _ _) fun _ _ => L.const _
    | _ => exact L.const _
  s := fun s env st hw => by
    cases s with
    | seq a b =>
      refine L.bind (h.s _ _ _) fun o st => ?_
      cases o with
      | nx env => exact h.s _ _ _
      | _ => exact L.const _
    | exp e => exact L.bind (h.e _ _ _) fun _ _ => L.const _
    | ret e => exact L.bind (h.e _ _ _) fun _ _ => L.const _
    | asg t e => exact L.bind (h.e _ _ _) fun _ _ => L.const _
    | sto o i e => exact L.bind (h.e _ _ _) fun _ _ => L.bind (h.e _ _ _) fun _ _ => L.bind (h.e _ _ _) fun _ _ => L.const _
    | aug i o e =>
      show L.Rel fun j => (match env.get i with
      | some x => ((F j).e e env st).bind fun y st => (iop o x y st).val.bind fun z st => .ok (Out.nx (env.put i z)) st
      | none => .no)
      split
      · exact L.bind (h.e _ _ _) fun _ _ => L.const _
      · exact L.const _
    | augs a i o e => exact L.bind (h.e _ _ _) fun _ _ => L.bind (h.e _ _ _) fun _ _ => L.bind (L.const _) fun _ _ => L.bind (h.e _ _ _) fun _ _ => L.const _
    | par i j a b => exact L.bind (h.e _ _ _) fun _ _ => L.bind (h.e _ _ _) fun _ _ => L.const _
    | par3 i j l a b c => exact L.bind (h.e _ _ _) fun _ _ => L.bind (h.e _ _ _) fun _ _ => L.bind (h.e _ _ _) fun _ _ => L.const _
    | mul t u a b => exact L.bind (h.e _ _ _) fun _ _ => L.bind (h.e _ _ _) fun _ _ => L.bind (lift_take h _ _ _ _) fun _ _ => L.bind (lift_take h _ _ _ _) fun _ _ => L.const _
    | ife c a b => exact L.bind (h.t _ _ _) fun _ _ => L.ite (h.s _ _ _) (h.s _ _ _)
    | whl c b => cases hw
    | fr t it b => exact L.locked (o := lockOf it env st) (G := fun i st => ((F i).i it env st).bind fun it st => frGo (F i) t b it.src it.items env st) (st := st) fun st => L.bind (h.i _ _ _) fun it st => lift_frGo h _ _ _ _ _ _
    | _ => exact L.const _
/-- one turn of a while -/
def whT (r : Ev) (c : E) (b : S) (k : Env → Sto → R Out) (env : Env) (st : Sto) : R Out := (r.t c env st).bind fun x st => if x then (r.s b env st).bind fun o st => (match o with
      | .nx env => k env st
      | .ct env => k env st
      | .bk env => .ok (.nx env) st
      | .rt d => .ok (.rt d) st) else .ok (.nx env) st
theorem lift_whT (h : LiftEv L F) (c : E) (b : S) {k : ι → Env → Sto → R Out} (hk : ∀ env st, L.Rel fun i => k i env st) (env : Env) (st : Sto) : L.Rel fun i => whT (F i) c b (k i) env st := by
  refine L.bind (h.t _ _ _) fun x st => L.ite (L.bind (h.s _ _ _) fun o st => ?_) (L.const _)
  cases o with
  | nx env => exact hk _ _
  | ct env => exact hk _ _
  | _ => exact L.const _
theorem lift_none : LiftEv L fun _ => Ev.none := ⟨fun _ _ _ => L.const _, fun _ _ _ => L.const _, fun _ _ _ => L.const _, fun _ _ _ => L.const _, fun _ _ _ => L.const _⟩
end
/-! the runs grow -/
def up : Lift Bool where
  Rel := fun F => F false ≠ .no → F true = F false
  const := fun _ _ => rfl
  bind := by
    intro α β F G hF hG h
    cases e : F false with
    | no => exact absurd (show (F false).bind (G false) = .no by rw [e]; rfl) h
    | ok a st =>
      have e2 := (hF (by rw [e]; intro z; cases z)).trans e
      show (F true).bind (G true) = (F false).bind (G false)
      have h : (F false).bind (G false) ≠ .no := h
      rw [e] at h ⊢
      rw [e2]
      exact hG a st h
    | ex x st =>
      have e2 := (hF (by rw [e]; intro z; cases z)).trans e
      show (F true).bind (G true) = (F false).bind (G false)
      rw [e, e2]
      rfl
  map := by
    intro α β F g hg hF h
    have : F false ≠ .no := fun z => h (by show g (F false) = .no; rw [z, hg])
    show g (F true) = g (F false)
    rw [hF this]
abbrev Up {α : Type} (x y : R α) : Prop := x ≠ .no → y = x
abbrev EvUp (r q : Ev) : Prop := LiftEv up fun b => match b with | false => r | true => q
theorem Up.trans {α : Type} {x y z : R α} (h : Up x y) (g : Up y z) : Up x z := fun n => by
  have e := h n
  rw [g (by rw [e]; exact n), e]
theorem whGo_up {r q : Ev} (h : EvUp r q) (c : E) (b : S) : ∀ (m n : Nat) (env : Env) (st : Sto), m ≤ n → Up (whGo r c b m env st) (whGo q c b n env st)
  | 0, n, env, st, _ => fun z => absurd rfl z
  | m + 1, 0, env, st, hl => by omega
  | m + 1, n + 1, env, st, hl => by
    have := lift_whT (k := fun i => match i with | false => whGo r c b m | true => whGo q c b n) h c b (fun env st => by
      have := whGo_up h c b m n env st (by omega)
      exact this) env st
    exact this
theorem EvUp.step {r q rc qc : Ev} {m n : Nat} (P : List Fn) (h : EvUp r q) (hc : EvUp rc qc) (hl : m ≤ n) : EvUp (step P m r rc) (step P n q qc) := by
  have key := lift_step P (fun b => match b with | false => m | true => n) h hc
  refine ⟨fun e env st => ?_, fun e env st => ?_, fun e env st => ?_, fun e env st => ?_, fun e env st => ?_⟩
  · exact key.e e env st
  · exact key.es e env st
  · exact key.t e env st
  · exact key.i e env st
  · cases w : isWhl e with
    | false => exact key.s e env st w
    | true =>
      cases e <;> first | (cases w; done) | skip
      exact whGo_up h _ _ m n env st hl
theorem EvUp.refl (r : Ev) : EvUp r r := ⟨fun _ _ _ _ => rfl, fun _ _ _ _ => rfl, fun _ _ _ _ => rfl, fun _ _ _ _ => rfl, fun _ _ _ _ => rfl⟩
theorem EvUp.none (r : Ev) : EvUp Ev.none r := ⟨fun _ _ _ z => absurd rfl z, fun _ _ _ z => absurd rfl z, fun _ _ _ z => absurd rfl z, fun _ _ _ z => absurd rfl z, fun _ _ _ z => absurd rfl z⟩
theorem ev_up (P : List Fn) : ∀ (m n c d : Nat), m ≤ n → c ≤ d → EvUp (ev P m c) (ev P n d)
  | 0, n, c, d, _, _ => EvUp.none _
  | m + 1, 0, c, d, h, _ => by omega
  | m + 1, n + 1, 0, d, h, hd => EvUp.step P (ev_up P m n 0 d (by omega) hd) (EvUp.none _) (by omega)
  | m + 1, n + 1, c + 1, 0, h, hd => by omega
  | m + 1, n + 1, c + 1, d + 1, h, hd => EvUp.step P (ev_up P m n (c + 1) (d + 1) (by omega) hd) (ev_up P m n c d (by omega) (by omega)) (by omega)
/-! what the runs come to -/
open Classical in
noncomputable def lim {α : Type} (F : Nat → R α) : R α := if h : ∃ n, F n ≠ .no then F h.choose else .no
noncomputable def EL (P : List Fn) (c : Nat) : Ev where
  e := fun e env st => lim fun n => (ev P n c).e e env st
  es := fun e env st => lim fun n => (ev P n c).es e env st
  t := fun e env st => lim fun n => (ev P n c).t e env st
  i := fun e env st => lim fun n => (ev P n c).i e env st
  s := fun e env st => lim fun n => (ev P n c).s e env st
def tends : Lift (Option Nat) where
  Rel := fun F => ∃ N, ∀ n, N ≤ n → F (some n) = F none
  const := fun _ => ⟨0, fun _ _ => rfl⟩
  bind := by
    intro α β F G ⟨N, hN⟩ hG
    cases e : F none with
    | no => exact ⟨N, fun n h => by show (F (some n)).bind (G (some n)) = (F none).bind (G none); rw [hN n h, e]; rfl⟩
    | ex x st => exact ⟨N, fun n h => by show (F (some n)).bind (G (some n)) = (F none).bind (G none); rw [hN n h, e]; rfl⟩
    | ok a st =>
      obtain ⟨M, hM⟩ := hG a st
      refine ⟨max N M, fun n h => ?_⟩
      show (F (some n)).bind (G (some n)) = (F none).bind (G none)
      rw [hN n (by omega), e]
      exact hM n (by omega)
  map := by
    intro α β F g hg ⟨N, hN⟩
    exact ⟨N, fun n h => by show g (F (some n)) = g (F none); rw [hN n h]⟩
theorem lim_ok {α : Type} {F : Nat → R α} (h : ∀ m n, m ≤ n → Up (F m) (F n)) : ∃ N, ∀ n, N ≤ n → F n = lim F := by
  unfold lim
  split
  · rename_i g
    exact ⟨g.choose, fun n hn => h _ _ hn g.choose_spec⟩
  · rename_i g
    refine ⟨0, fun n _ => Classical.byContradiction fun z => g ⟨n, z⟩⟩
theorem lim_eq {α : Type} {F : Nat → R α} (h : ∀ m n, m ≤ n → Up (F m) (F n)) {n : Nat} {x : R α} (e : F n = x) (hx : x ≠ .no) : lim F = x := by
  obtain ⟨N, hN⟩ := lim_ok h
  rw [← hN (max N n) (by omega), h n (max N n) (by omega) (by rw [e]; exact hx), e]
abbrev fam (f : Nat → Ev) (r : Ev) : Option Nat → Ev
  | some n => f n
  | none => r
theorem el_tends (P : List Fn) (c : Nat) : LiftEv tends (fam (fun n => ev P n c) (EL P c)) := by
  refine ⟨fun e env st => ?_, fun e env st => ?_, fun e env st => ?_, fun e env st => ?_, fun e env st => ?_⟩
  · exact lim_ok (F := fun n => (ev P n c).e e env st) fun m n h => (ev_up P m n c c h (Nat.le_refl c)).e e env st
  · exact lim_ok (F := fun n => (ev P n c).es e env st) fun m n h => (ev_up P m n c c h (Nat.le_refl c)).es e env st
  · exact lim_ok (F := fun n => (ev P n c).t e env st) fun m n h => (ev_up P m n c c h (Nat.le_refl c)).t e env st
  · exact lim_ok (F := fun n => (ev P n c).i e env st) fun m n h => (ev_up P m n c c h (Nat.le_refl c)).i e env st
  · exact lim_ok (F := fun n => (ev P n c).s e env st) fun m n h => (ev_up P m n c c h (Nat.le_refl c)).s e env st
noncomputable def ELc (P : List Fn) (c : Nat) : Ev := match c with | 0 => Ev.none | c + 1 => EL P c
def evc (P : List Fn) (n c : Nat) : Ev := match c with | 0 => Ev.none | c + 1 => ev P n c
theorem ev_s (P : List Fn) (n c : Nat) : ev P (n + 1) c = step P n (ev P n c) (evc P n c) := by cases c <;> rfl
theorem elc_tends (P : List Fn) (c : Nat) : LiftEv tends (fam (fun n => evc P n c) (ELc P c)) := by
  cases c with
  | zero =>
    have := lift_none (L := tends)
    exact ⟨fun e env st => ⟨0, fun _ _ => rfl⟩, fun e env st => ⟨0, fun _ _ => rfl⟩, fun e env st => ⟨0, fun _ _ => rfl⟩, fun e env st => ⟨0, fun _ _ => rfl⟩, fun e env st => ⟨0, fun _ _ => rfl⟩⟩
  | succ c => exact el_tends P c
theorem same {α : Type} {F G : Option Nat → R α} (hF : tends.Rel F) (hG : tends.Rel G) (h : ∀ n, F (some (n + 1)) = G (some n)) : F none = G none := by
  obtain ⟨N, hN⟩ := hF
  obtain ⟨M, hM⟩ := hG
  rw [← hN (max N M + 1) (by omega), h, hM _ (by omega)]
theorem step_tends (P : List Fn) (c : Nat) : LiftStep tends fun i => step P (match i with | some n => n | none => 0) (fam (fun n => ev P n c) (EL P c) i) (fam (fun n => evc P n c) (ELc P c) i) := lift_step P _ (el_tends P c) (elc_tends P c)
section
variable (P : List Fn) (c : Nat)
theorem el_e (e : E) (env : Env) (st : Sto) : (EL P c).e e env st = (step P 0 (EL P c) (ELc P c)).e e env st := same ((el_tends P c).e e env st) ((step_tends P c).e e env st) fun n => by show (ev P (n + 1) c).e e env st = _; rw [ev_s]
theorem el_es (e : E) (env : Env) (st : Sto) : (EL P c).es e env st = (step P 0 (EL P c) (ELc P c)).es e env st := same ((el_tends P c).es e env st) ((step_tends P c).es e env st) fun n => by show (ev P (n + 1) c).es e env st = _; rw [ev_s]
theorem el_t (e : E) (env : Env) (st : Sto) : (EL P c).t e env st = (step P 0 (EL P c) (ELc P c)).t e env st := same ((el_tends P c).t e env st) ((step_tends P c).t e env st) fun n => by show (ev P (n + 1) c).t e env st = _; rw [ev_s]
theorem el_i (e : E) (env : Env) (st : Sto) : (EL P c).i e env st = (step P 0 (EL P c) (ELc P c)).i e env st := same ((el_tends P c).i e env st) ((step_tends P c).i e env st) fun n => by show (ev P (n + 1) c).i e env st = _; rw [ev_s]
theorem el_s (s : S) (hw : isWhl s = false) (env : Env) (st : Sto) : (EL P c).s s env st = (step P 0 (EL P c) (ELc P c)).s s env st := same ((el_tends P c).s s env st) ((step_tends P c).s s env st hw) fun n => by show (ev P (n + 1) c).s s env st = _; rw [ev_s]
theorem el_whl (t : E) (b : S) (env : Env) (st : Sto) : (EL P c).s (.whl t b) env st = whT (EL P c) t b (fun env st => (EL P c).s (.whl t b) env st) env st := by
  have h1 : ∀ env st, tends.Rel fun i => match i with | some n => whGo (ev P (n + 1) c) t b n env st | none => (EL P c).s (.whl t b) env st := fun env st => by
    obtain ⟨N, hN⟩ := (el_tends P c).s (.whl t b) env st
    refine ⟨N + 1, fun n hn => ?_⟩
    show whGo (ev P (n + 1) c) t b n env st = (EL P c).s (.whl t b) env st
    have e1 : (ev P (n + 1) c).s (.whl t b) env st = (EL P c).s (.whl t b) env st := hN (n + 1) (by omega)
    have e2 : (ev P (n + 2) c).s (.whl t b) env st = (EL P c).s (.whl t b) env st := hN (n + 2) (by omega)
    rw [ev_s] at e1 e2
    have e1 : whGo (ev P n c) t b n env st = (EL P c).s (.whl t b) env st := e1
    have e2 : whGo (ev P (n + 1) c) t b (n + 1) env st = (EL P c).s (.whl t b) env st := e2
    have u1 := whGo_up (ev_up P n (n + 1) c c (by omega) (Nat.le_refl c)) t b n n env st (Nat.le_refl n)
    have u2 := whGo_up (EvUp.refl (ev P (n + 1) c)) t b n (n + 1) env st (by omega)
    by_cases z : (EL P c).s (.whl t b) env st = .no
    · rw [z] at e2 ⊢
      exact Classical.byContradiction fun y => y (by rw [← u2 y, e2])
    · rw [← e1]
      exact u1 (by rw [e1]; exact z)
  have h2 := lift_whT (L := tends) (F := fam (fun n => ev P (n + 1) c) (EL P c)) (k := fun i => match i with | some n => whGo (ev P (n + 1) c) t b n | none => fun env st => (EL P c).s (.whl t b) env st) (by
    have h := el_tends P c
    refine ⟨fun e env st => ?_, fun e env st => ?_, fun e env st => ?_, fun e env st => ?_, fun e env st => ?_⟩
    · obtain ⟨N, hN⟩ := h.e e env st
      exact ⟨N, fun n hn => hN (n + 1) (by omega)⟩
    · obtain ⟨N, hN⟩ := h.es e env st
      exact ⟨N, fun n hn => hN (n + 1) (by omega)⟩
    · obtain ⟨N, hN⟩ := h.t e env st
      exact ⟨N, fun n hn => hN (n + 1) (by omega)⟩
    · obtain ⟨N, hN⟩ := h.i e env st
      exact ⟨N, fun n hn => hN (n + 1) (by omega)⟩
    · obtain ⟨N, hN⟩ := h.s e env st
      exact ⟨N, fun n hn => hN (n + 1) (by omega)⟩) t b (fun env st => by
      obtain ⟨N, hN⟩ := h1 env st
      exact ⟨N, fun n hn => hN n hn⟩) env st
  obtain ⟨N, hN⟩ := (el_tends P c).s (.whl t b) env st
  obtain ⟨M, hM⟩ := h2
  have e1 : (ev P (max N M + 2) c).s (.whl t b) env st = (EL P c).s (.whl t b) env st := hN (max N M + 2) (by omega)
  rw [ev_s] at e1
  rw [← e1]
  exact hM (max N M) (by omega)
end
/-- a run that was looked at -/
theorem el_call {P : List Fn} {n c d f : Nat} {ds : List D} {st : Sto} {x : R D} (h : callF P (ev P n c) f ds st = x) (hx : x ≠ .no) (hd : c ≤ d) : callF P (EL P d) f ds st = x := by
  obtain ⟨N, hN⟩ := lift_callF P (el_tends P d) f ds st
  have e := hN (max N n) (by omega)
  have u := lift_callF P (ev_up P n (max N n) c d (by omega) hd) f ds st
  have e : callF P (ev P (max N n) d) f ds st = callF P (EL P d) f ds st := e
  rw [← e, ← h]
  exact u (by show callF P (ev P n c) f ds st ≠ .no; rw [h]; exact hx)
/-- a run has an end -/
theorem el_run {P : List Fn} {c f : Nat} {ds : List D} {st : Sto} {x : R D} (h : callF P (EL P c) f ds st = x) : ∃ n, callF P (ev P n c) f ds st = x := by
  obtain ⟨N, hN⟩ := lift_callF P (el_tends P c) f ds st
  exact ⟨N, (hN N (Nat.le_refl N)).trans h⟩
theorem el_up (P : List Fn) {c d : Nat} (h : c ≤ d) : EvUp (EL P c) (EL P d) := by
  have key : ∀ {α : Type} (F G : Nat → R α), (∃ N, ∀ n, N ≤ n → F n = lim F) → (∃ N, ∀ n, N ≤ n → G n = lim G) → (∀ n, Up (F n) (G n)) → Up (lim F) (lim G) := fun F G ⟨N, hN⟩ ⟨M, hM⟩ u z => by
    have e1 := hN (max N M) (by omega)
    have e2 := hM (max N M) (by omega)
    rw [← e1, ← e2]
    exact u _ (by rw [e1]; exact z)
  refine ⟨fun e env st => ?_, fun e env st => ?_, fun e env st => ?_, fun e env st => ?_, fun e env st => ?_⟩
  · exact key _ _ ((el_tends P c).e e env st) ((el_tends P d).e e env st) fun n => (ev_up P n n c d (Nat.le_refl n) h).e e env st
  · exact key _ _ ((el_tends P c).es e env st) ((el_tends P d).es e env st) fun n => (ev_up P n n c d (Nat.le_refl n) h).es e env st
  · exact key _ _ ((el_tends P c).t e env st) ((el_tends P d).t e env st) fun n => (ev_up P n n c d (Nat.le_refl n) h).t e env st
  · exact key _ _ ((el_tends P c).i e env st) ((el_tends P d).i e env st) fun n => (ev_up P n n c d (Nat.le_refl n) h).i e env st
  · exact key _ _ ((el_tends P c).s e env st) ((el_tends P d).s e env st) fun n => (ev_up P n n c d (Nat.le_refl n) h).s e env st
theorem el_callUp {P : List Fn} {c d f : Nat} {ds : List D} {st : Sto} {x : R D} (h : callF P (EL P c) f ds st = x) (hx : x ≠ .no) (hd : c ≤ d) : callF P (EL P d) f ds st = x := by
  have u := lift_callF P (el_up P hd) f ds st
  rw [← h]
  exact u (by show callF P (EL P c) f ds st ≠ .no; rw [h]; exact hx)
/-! a runner for looks: each call begins anew -/
def evIn (P : List Fn) (rc : Ev) (n : Nat) : Ev := Nat.rec Ev.none (fun n ih => step P n ih rc) n
def evR (P : List Fn) (N : Nat) (c : Nat) : Ev := Nat.rec (evIn P Ev.none N) (fun _ ih => evIn P ih N) c
theorem step_el (P : List Fn) (c n : Nat) : EvUp (step P n (EL P c) (ELc P c)) (EL P c) := by
  refine ⟨fun e env st _ => ?_, fun e env st _ => ?_, fun e env st _ => ?_, fun e env st _ => ?_, fun s env st => ?_⟩
  · exact el_e P c e env st
  · exact el_es P c e env st
  · exact el_t P c e env st
  · exact el_i P c e env st
  · cases w : isWhl s with
    | false =>
      intro _
      cases s <;> first | (cases w; done) | exact el_s P c _ rfl env st
    | true =>
      cases s <;> first | (cases w; done) | skip
      rename_i t b
      show Up (whGo (EL P c) t b n env st) ((EL P c).s (.whl t b) env st)
      induction n generalizing env st with
      | zero => exact fun z => absurd rfl z
      | succ n ih =>
        rw [el_whl]
        have := lift_whT (L := up) (EvUp.refl (EL P c)) t b (k := fun i => match i with | false => whGo (EL P c) t b n | true => fun env st => (EL P c).s (.whl t b) env st) (fun env st => ih env st) env st
        exact this
theorem EvUp.trans {r q p : Ev} (h1 : EvUp r q) (h2 : EvUp q p) : EvUp r p := ⟨fun e env st => Up.trans (x := r.e e env st) (y := q.e e env st) (z := p.e e env st) (h1.e e env st) (h2.e e env st), fun e env st => Up.trans (x := r.es e env st) (y := q.es e env st) (z := p.es e env st) (h1.es e env st) (h2.es e env st), fun e env st => Up.trans (x := r.t e env st) (y := q.t e env st) (z := p.t e env st) (h1.t e env st) (h2.t e env st), fun e env st => Up.trans (x := r.i e env st) (y := q.i e env st) (z := p.i e env st) (h1.i e env st) (h2.i e env st), fun e env st => Up.trans (x := r.s e env st) (y := q.s e env st) (z := p.s e env st) (h1.s e env st) (h2.s e env st)⟩
theorem evIn_up {P : List Fn} {rc : Ev} {c : Nat} (h : EvUp rc (ELc P c)) : ∀ n, EvUp (evIn P rc n) (EL P c)
  | 0 => EvUp.none _
  | n + 1 => EvUp.trans (EvUp.step (m := n) (n := n) P (evIn_up h n) h (Nat.le_refl n)) (step_el P c n)
theorem evR_up (P : List Fn) (N : Nat) : ∀ c, EvUp (evR P N c) (EL P c)
  | 0 => evIn_up (c := 0) (EvUp.none _) N
  | c + 1 => evIn_up (c := c + 1) (evR_up P N c) N
theorem evR_le (P : List Fn) (N : Nat) {c d : Nat} (h : c ≤ d) : EvUp (evR P N c) (EL P d) := (evR_up P N c).trans (el_up P h)
end Ev
end

section
set_option autoImplicit false
set_option Elab.async false
set_option linter.all false
set_option maxRecDepth 100000
/-! EL2: the unbounded runner, step by step, for simp. -/
namespace Ev
open PySem (Str)
section
variable {P : List Fn} {c : Nat} {env : Env} {st : Sto}
@[simp] theorem le_var (i : Nat) : (EL P c).e (.var i) env st = okO st (env.get i) := by rw [el_e]; rfl
@[simp] theorem le_cst (d : D) : (EL P c).e (.cst d) env st = .ok d st := by rw [el_e]; rfl
@[simp] theorem le_glb (x : Str) (d : D) : (EL P c).e (.glb x d) env st = .ok d st := by rw [el_e]; rfl
@[simp] theorem le_bin (o : Bop) (a b : E) : (EL P c).e (.bin o a b) env st = ((EL P c).e a env st).bind fun x st => ((EL P c).e b env st).bind fun y st => (binop o x y st).val := by rw [el_e]; rfl
@[simp] theorem le_cmp (o : Cop) (a b : E) : (EL P c).e (.cmp o a b) env st = ((EL P c).e a env st).bind fun x st => ((EL P c).e b env st).bind fun y st => ofB st (cmpop o x y st) := by rw [el_e]; rfl
@[simp] theorem le_and (a b : E) : (EL P c).e (.and a b) env st = ((EL P c).e a env st).bind fun x st => (match x with | .bl true => (EL P c).e b env st | .bl false => .ok (.bl false) st | _ => .no) := by rw [el_e]; rfl
@[simp] theorem le_or (a b : E) : (EL P c).e (.or a b) env st = ((EL P c).e a env st).bind fun x st => (match x with | .bl false => (EL P c).e b env st | .bl true => .ok (.bl true) st | _ => .no) := by rw [el_e]; rfl
@[simp] theorem le_not (a : E) : (EL P c).e (.not a) env st = ((EL P c).e a env st).bind fun x st => (match x with | .bl b => .ok (.bl (!b)) st | _ => .no) := by rw [el_e]; rfl
@[simp] theorem le_neg (a : E) : (EL P c).e (.neg a) env st = ((EL P c).e a env st).bind fun x st => (match x with | .int i => .ok (.int (-i)) st | _ => .no) := by rw [el_e]; rfl
@[simp] theorem le_ifx (t a b : E) : (EL P c).e (.ifx t a b) env st = ((EL P c).t t env st).bind fun x st => if x then (EL P c).e a env st else (EL P c).e b env st := by rw [el_e]; rfl
@[simp] theorem le_tup (es : E) : (EL P c).e (.tup es) env st = ((EL P c).es es env st).bind fun ds st => if small ds.length then .ok (.tup ds) st else .no := by rw [el_e]; rfl
@[simp] theorem le_lst (es : E) : (EL P c).e (.lst es) env st = ((EL P c).es es env st).bind fun ds st => if small ds.length then new (.lst ds) st else .no := by rw [el_e]; rfl
@[simp] theorem le_idx (a i : E) : (EL P c).e (.idx a i) env st = ((EL P c).e a env st).bind fun x st => ((EL P c).e i env st).bind fun y st => (item x y st).val := by rw [el_e]; rfl
@[simp] theorem le_slc (a lo hi : E) : (EL P c).e (.slc a lo hi) env st = ((EL P c).e a env st).bind fun x st => (opt (EL P c).e lo env st).bind fun l st => (opt (EL P c).e hi env st).bind fun h st => (cut x l h st).val := by rw [el_e]; rfl
@[simp] theorem le_rpl (a : E) (y z : Str) : (EL P c).e (.rpl a y z) env st = ((EL P c).e a env st).bind fun x st => (match x with
      | .str s => if Nat.ble 1 y.length && Nat.ble (s.length + (s.length + 1) * z.length) line then .ok (.str (ofChars (rplS y.cps.toList z.cps.toList 0 s.cps.toList))) st else .no
      | _ => .no) := by rw [el_e]; rfl
@[simp] theorem le_call (f : Nat) (es : E) : (EL P (c + 1)).e (.call f es) env st = ((EL P (c + 1)).es es env st).bind fun ds st => callF P (EL P c) f ds st := by rw [el_e]; rfl
@[simp] theorem le_blt (b : Blt) (es : E) : (EL P c).e (.blt b es) env st = (match asRng (oneE es) with
      | some as => (rngR (EL P c).e as env st).bind fun xs st => (match b with
        | .list => if small xs.length then new (.lst xs) st else .no
        | .tuple => if small xs.length then .ok (.tup xs) st else .no
        | _ => .no)
      | none => ((EL P c).es es env st).bind fun ds st => (bltA b ds st).val) := by rw [el_e]; rfl
@[simp] theorem le_mth (m : Mth) (o es : E) : (EL P c).e (.mth m o es) env st = ((EL P c).e o env st).bind fun x st => (match kdOf x st with
      | some k => if hasM k m then ((EL P c).es es env st).bind fun ds st => (mthV k m x ds st).val else .no
      | none => .no) := by rw [el_e]; rfl
@[simp] theorem le_isi (t : Ty) (e : E) : (EL P c).e (.isi t e) env st = ((EL P c).e e env st).bind fun x st => ofB st (isTy t x st) := by rw [el_e]; rfl
@[simp] theorem le_lc (vs : List Nat) (t : T) (it k e : E) : (EL P c).e (.lc vs t it k e) env st = locked (lockOf it env st) (fun st => ((EL P c).i it env st).bind fun it st => if small it.items.length then (lcGo (EL P c) t k e (env.wipe vs) it.src it.items [] st).bind fun ds st => new (.lst ds) st else .no) st := by rw [el_e]; rfl
@[simp] theorem les_nil : (EL P c).es .nil env st = .ok [] st := by rw [el_es]; rfl
@[simp] theorem les_cons (e q : E) : (EL P c).es (.cons e q) env st = ((EL P c).e e env st).bind fun d st => ((EL P c).es q env st).bind fun ds st => .ok (d :: ds) st := by rw [el_es]; rfl
@[simp] theorem lt_none : (EL P c).t .none env st = .ok true st := by rw [el_t]; rfl
@[simp] theorem lt_and (a b : E) : (EL P c).t (.and a b) env st = ((EL P c).t a env st).bind fun x st => if x then (EL P c).t b env st else .ok false st := by rw [el_t]; rfl
@[simp] theorem lt_or (a b : E) : (EL P c).t (.or a b) env st = ((EL P c).t a env st).bind fun x st => if x then .ok true st else (EL P c).t b env st := by rw [el_t]; rfl
@[simp] theorem lt_not (a : E) : (EL P c).t (.not a) env st = ((EL P c).t a env st).bind fun x st => .ok (!x) st := by rw [el_t]; rfl
@[simp] theorem lt_val (e : E) : (EL P c).t (.val e) env st = ((EL P c).e e env st).bind fun d st => okO st (truth st d) := by rw [el_t]; rfl
@[simp] theorem li_range (es : E) : (EL P c).i (.blt .range es) env st = (rngR (EL P c).e es env st).bind fun xs st => .ok ⟨xs, [], false⟩ st := by rw [el_i]; rfl
@[simp] theorem li_val (e : E) : (EL P c).i (.val e) env st = ((EL P c).e e env st).bind fun d st => okO st (itOf d st) := by rw [el_i]; rfl
@[simp] theorem ls_skip : (EL P c).s .skip env st = .ok (.nx env) st := by rw [el_s P c _ rfl]; rfl
@[simp] theorem ls_seq (a b : S) : (EL P c).s (.seq a b) env st = ((EL P c).s a env st).bind fun o st => (match o with | .nx env => (EL P c).s b env st | o => .ok o st) := by rw [el_s P c _ rfl]; rfl
@[simp] theorem ls_exp (e : E) : (EL P c).s (.exp e) env st = ((EL P c).e e env st).bind fun _ st => .ok (.nx env) st := by rw [el_s P c _ rfl]; rfl
@[simp] theorem ls_ret (e : E) : (EL P c).s (.ret e) env st = ((EL P c).e e env st).bind fun d st => .ok (.rt d) st := by rw [el_s P c _ rfl]; rfl
@[simp] theorem ls_retn : (EL P c).s .retn env st = .ok (.rt .non) st := by rw [el_s P c _ rfl]; rfl
@[simp] theorem ls_brk : (EL P c).s .brk env st = .ok (.bk env) st := by rw [el_s P c _ rfl]; rfl
@[simp] theorem ls_cnt : (EL P c).s .cnt env st = .ok (.ct env) st := by rw [el_s P c _ rfl]; rfl
@[simp] theorem ls_asg (t : T) (e : E) : (EL P c).s (.asg t e) env st = ((EL P c).e e env st).bind fun d st => (match T.take t d env with | some env => .ok (.nx env) st | none => .no) := by rw [el_s P c _ rfl]; rfl
@[simp] theorem ls_sto (o i e : E) : (EL P c).s (.sto o i e) env st = ((EL P c).e e env st).bind fun d st => ((EL P c).e o env st).bind fun x st => ((EL P c).e i env st).bind fun y st => (store x y d st).val.bind fun _ st => .ok (.nx env) st := by rw [el_s P c _ rfl]; rfl
@[simp] theorem ls_aug (i : Nat) (o : Bop) (e : E) : (EL P c).s (.aug i o e) env st = (match env.get i with
      | some x => ((EL P c).e e env st).bind fun y st => (iop o x y st).val.bind fun z st => .ok (.nx (env.put i z)) st
      | none => .no) := by rw [el_s P c _ rfl]; rfl
@[simp] theorem ls_par (i j : Nat) (a b : E) : (EL P c).s (.par i j a b) env st = ((EL P c).e a env st).bind fun x st => ((EL P c).e b env st).bind fun y st => .ok (.nx ((env.put i x).put j y)) st := by rw [el_s P c _ rfl]; rfl
@[simp] theorem ls_ife (t : E) (a b : S) : (EL P c).s (.ife t a b) env st = ((EL P c).t t env st).bind fun x st => if x then (EL P c).s a env st else (EL P c).s b env st := by rw [el_s P c _ rfl]; rfl
@[simp] theorem ls_fr (t : T) (it : E) (b : S) : (EL P c).s (.fr t it b) env st = locked (lockOf it env st) (fun st => ((EL P c).i it env st).bind fun it st => frGo (EL P c) t b it.src it.items env st) st := by rw [el_s P c _ rfl]; rfl
@[simp] theorem le_cmp2 (o p : Cop) (a b d : E) : (EL P c).e (.cmp2 o p a b d) env st = ((EL P c).e a env st).bind fun x st => ((EL P c).e b env st).bind fun y st => (match cmpop o x y st with
      | some true => ((EL P c).e d env st).bind fun z st => ofB st (cmpop p y z st)
      | some false => .ok (.bl false) st
      | none => .no) := by rw [el_e]; rfl
@[simp] theorem le_rev (a : E) : (EL P c).e (.rev a) env st = ((EL P c).e a env st).bind fun x st => (match x with
      | .ref l => (match sget st l with | some (.lst xs) => new (.lst xs.reverse) st | _ => .no)
      | .tup xs => .ok (.tup xs.reverse) st
      | _ => .no) := by rw [el_e]; rfl
@[simp] theorem le_dic (b : Bool) : (EL P c).e (.dic b) env st = new (match b with | true => .dcT [] | false => .dct []) st := by rw [el_e]; rfl
@[simp] theorem le_dc1 (b : Bool) (k v : E) : (EL P c).e (.dc1 b k v) env st = ((EL P c).e k env st).bind fun x st => ((EL P c).e v env st).bind fun y st => dicV b x y st := by rw [el_e]; rfl
@[simp] theorem le_mxd (b : Blt) (a d : E) : (EL P c).e (.mxd b a d) env st = ((EL P c).e a env st).bind fun x st => ((EL P c).e d env st).bind fun y st => (mxdV b x y st).val := by rw [el_e]; rfl
@[simp] theorem le_vws (o : E) : (EL P c).e (.vws o) env st = ((EL P c).e o env st).bind fun x st => (vwsV x st).val := by rw [el_e]; rfl
@[simp] theorem le_lc2 (vs : List Nat) (t : T) (it : E) (t' : T) (it' k e : E) : (EL P c).e (.lc2 vs t it t' it' k e) env st = ((EL P c).i it env st).bind fun it st => (lcOut (EL P c) t it' t' k e (env.wipe vs) it.src it.items [] st).bind fun ds st => new (.lst ds) st := by rw [el_e]; rfl
@[simp] theorem li_enum (a : E) : (EL P c).i (.blt .enumerate (.cons a .nil)) env st = ((EL P c).e a env st).bind fun d st => (match rowOf d st with | some xs => .ok ⟨numD 0 xs, srcD d xs, true⟩ st | none => .no) := by rw [el_i]; rfl
@[simp] theorem li_zip (a b : E) : (EL P c).i (.blt .zip (.cons a (.cons b .nil))) env st = ((EL P c).e a env st).bind fun d st => ((EL P c).e b env st).bind fun d' st => (match rowOf d st with
              | some xs => (match rowOf d' st with
                | some ys => if D.isRef d == D.isRef d' then .ok ⟨zipD xs ys, srcD d xs ++ srcD d' ys, true⟩ st else .no
                | none => .no)
              | none => .no) := by rw [el_i]; rfl
@[simp] theorem li_rev (as : E) : (EL P c).i (.blt .reversed (.cons (.blt .range as) .nil)) env st = (rngR (EL P c).e as env st).bind fun xs st => .ok ⟨xs.reverse, [], false⟩ st := by rw [el_i]; rfl
@[simp] theorem ls_augs (a i : E) (o : Bop) (e : E) : (EL P c).s (.augs a i o e) env st = ((EL P c).e a env st).bind fun x st => ((EL P c).e i env st).bind fun y st => (item x y st).val.bind fun z st => ((EL P c).e e env st).bind fun w st => (iop o z w st).val.bind fun v st => (store x y v st).val.bind fun _ st => .ok (.nx env) st := by rw [el_s P c _ rfl]; rfl
@[simp] theorem ls_par3 (i j l : Nat) (a b e : E) : (EL P c).s (.par3 i j l a b e) env st = ((EL P c).e a env st).bind fun x st => ((EL P c).e b env st).bind fun y st => ((EL P c).e e env st).bind fun z st => .ok (.nx (((env.put i x).put j y).put l z)) st := by rw [el_s P c _ rfl]; rfl
@[simp] theorem ls_mul (t u : G) (a b : E) : (EL P c).s (.mul t u a b) env st = ((EL P c).e a env st).bind fun d st => ((EL P c).e b env st).bind fun d' st => (G.take (EL P c) t d env st).bind fun env st => (G.take (EL P c) u d' env st).bind fun env st => .ok (.nx env) st := by rw [el_s P c _ rfl]; rfl
@[simp] theorem g_nm (r : Ev) (i : Nat) (d : D) : G.take r (.nm i) d env st = .ok (env.put i d) st := rfl
@[simp] theorem g_sub (r : Ev) (o i : E) (d : D) : G.take r (.sub o i) d env st = (r.e o env st).bind fun x st => (r.e i env st).bind fun y st => (store x y d st).val.bind fun _ st => .ok env st := rfl
theorem rng_1 {e : E → Env → Sto → R D} {a : E} {st' : Sto} {m : Int} (h : e a env st = .ok (.int m) st') (hm : inR62 m = true) : rngR e (.cons a .nil) env st = .ok (intsFrom 0 m.toNat) st' := by
  rw [rngR1, h, r_bind, onInt_i, if_pos hm]
theorem rng_2 {e : E → Env → Sto → R D} {a b : E} {st1 st' : Sto} {m n : Int} (h1 : e a env st = .ok (.int m) st1) (h2 : e b env st1 = .ok (.int n) st') (hm : inR62 m = true) (hn : inR62 n = true) : rngR e (.cons a (.cons b .nil)) env st = .ok (intsFrom m (n - m).toNat) st' := by
  have : rngR e (.cons a (.cons b .nil)) env st = (e a env st).bind fun x st => (e b env st).bind fun y st => onInt x (fun lo => onInt y (fun hi => if inR62 lo && inR62 hi then .ok (intsFrom lo (hi - lo).toNat) st else .no) .no) .no := rfl
  rw [this, h1, r_bind, h2, r_bind, onInt_i, onInt_i, if_pos (by rw [hm, hn]; rfl)]
/-! statements, one by one -/
theorem q_seq {a b : S} {env' : Env} {st' : Sto} (h : (EL P c).s a env st = .ok (.nx env') st') : (EL P c).s (.seq a b) env st = (EL P c).s b env' st' := by
  rw [ls_seq, h]; rfl
theorem q_seqr {a b : S} {d : D} {st' : Sto} (h : (EL P c).s a env st = .ok (.rt d) st') : (EL P c).s (.seq a b) env st = .ok (.rt d) st' := by
  rw [ls_seq, h]; rfl
theorem q_asg {i : Nat} {e : E} {b : S} {d : D} {st' : Sto} (h : (EL P c).e e env st = .ok d st') : (EL P c).s (.seq (.asg (.nm i) e) b) env st = (EL P c).s b (env.put i d) st' := q_seq (by rw [ls_asg, h]; simp)
theorem q_exp {e : E} {b : S} {d : D} {st' : Sto} (h : (EL P c).e e env st = .ok d st') : (EL P c).s (.seq (.exp e) b) env st = (EL P c).s b env st' := q_seq (by rw [ls_exp, h]; simp)
theorem q_ret {e : E} {b : S} {d : D} {st' : Sto} (h : (EL P c).e e env st = .ok d st') : (EL P c).s (.seq (.ret e) b) env st = .ok (.rt d) st' := q_seqr (by rw [ls_ret, h]; rfl)
theorem q_par {i j : Nat} {e f : E} {b : S} {d d' : D} {st1 st2 : Sto} (h : (EL P c).e e env st = .ok d st1) (h2 : (EL P c).e f env st1 = .ok d' st2) : (EL P c).s (.seq (.par i j e f) b) env st = (EL P c).s b ((env.put i d).put j d') st2 := q_seq (by rw [ls_par, h, r_bind, h2, r_bind])
theorem q_ift {t : E} {x y b : S} {st' : Sto} (h : (EL P c).t t env st = .ok true st') : (EL P c).s (.seq (.ife t x y) b) env st = ((EL P c).s x env st').bind fun o st => (match o with | .nx env => (EL P c).s b env st | o => .ok o st) := by
  rw [ls_seq, ls_ife, h, r_bind, if_pos rfl]
theorem q_iff {t : E} {x b : S} {st' : Sto} (h : (EL P c).t t env st = .ok false st') : (EL P c).s (.seq (.ife t x .skip) b) env st = (EL P c).s b env st' := by
  rw [ls_seq, ls_ife, h, r_bind, if_neg (by decide), ls_skip, r_bind]
theorem q_iff' {t : E} {x y b : S} {st' : Sto} (h : (EL P c).t t env st = .ok false st') : (EL P c).s (.seq (.ife t x y) b) env st = ((EL P c).s y env st').bind fun o st => (match o with | .nx env => (EL P c).s b env st | o => .ok o st) := by
  rw [ls_seq, ls_ife, h, r_bind, if_neg (by decide)]
theorem q_ifN {t : E} {x y b : S} {st1 st2 : Sto} {env2 : Env} (h : (EL P c).t t env st = .ok true st1) (hx : (EL P c).s x env st1 = .ok (.nx env2) st2) : (EL P c).s (.seq (.ife t x y) b) env st = (EL P c).s b env2 st2 := (q_ift h).trans (by rw [hx]; rfl)
theorem q_ifR {t : E} {x y b : S} {st1 st2 : Sto} {d : D} (h : (EL P c).t t env st = .ok true st1) (hx : (EL P c).s x env st1 = .ok (.rt d) st2) : (EL P c).s (.seq (.ife t x y) b) env st = .ok (.rt d) st2 := (q_ift h).trans (by rw [hx]; rfl)
theorem q_ifB {t : E} {x y b : S} {st1 st2 : Sto} {env2 : Env} (h : (EL P c).t t env st = .ok true st1) (hx : (EL P c).s x env st1 = .ok (.bk env2) st2) : (EL P c).s (.seq (.ife t x y) b) env st = .ok (.bk env2) st2 := (q_ift h).trans (by rw [hx]; rfl)
theorem q_ifC {t : E} {x y b : S} {st1 st2 : Sto} {env2 : Env} (h : (EL P c).t t env st = .ok true st1) (hx : (EL P c).s x env st1 = .ok (.ct env2) st2) : (EL P c).s (.seq (.ife t x y) b) env st = .ok (.ct env2) st2 := (q_ift h).trans (by rw [hx]; rfl)
theorem q_elN {t : E} {x y b : S} {st1 st2 : Sto} {env2 : Env} (h : (EL P c).t t env st = .ok false st1) (hx : (EL P c).s y env st1 = .ok (.nx env2) st2) : (EL P c).s (.seq (.ife t x y) b) env st = (EL P c).s b env2 st2 := (q_iff' h).trans (by rw [hx]; rfl)
theorem q_elR {t : E} {x y b : S} {st1 st2 : Sto} {d : D} (h : (EL P c).t t env st = .ok false st1) (hx : (EL P c).s y env st1 = .ok (.rt d) st2) : (EL P c).s (.seq (.ife t x y) b) env st = .ok (.rt d) st2 := (q_iff' h).trans (by rw [hx]; rfl)
theorem q_fr {t : T} {it : E} {a b : S} {I : It} {env' : Env} {st1 st' : Sto} (hl : lockOf it env st = none) (hi : (EL P c).i it env st = .ok I st1) (h : frGo (EL P c) t a I.src I.items env st1 = .ok (.nx env') st') : (EL P c).s (.seq (.fr t it a) b) env st = (EL P c).s b env' st' := q_seq (by rw [ls_fr, hl, locked_none, hi]; exact h)
theorem q_frr {t : T} {it : E} {a b : S} {I : It} {d : D} {st1 st' : Sto} (hl : lockOf it env st = none) (hi : (EL P c).i it env st = .ok I st1) (h : frGo (EL P c) t a I.src I.items env st1 = .ok (.rt d) st') : (EL P c).s (.seq (.fr t it a) b) env st = .ok (.rt d) st' := q_seqr (by rw [ls_fr, hl, locked_none, hi]; exact h)
/-- a walk that goes through -/
theorem fr_ind {r : Ev} {t : T} {b : S} {src : List (Nat × O)} (I : List D → Env → Sto → Prop) (hs : ∀ xs env st, I xs env st → srcOk st src = true) (h : ∀ x xs env st, I (x :: xs) env st → ∃ env1, T.take t x env = some env1 ∧ ∃ env2 st2, (r.s b env1 st = .ok (.nx env2) st2 ∨ r.s b env1 st = .ok (.ct env2) st2) ∧ I xs env2 st2) : ∀ xs env st, I xs env st → ∃ env2 st2, frGo r t b src xs env st = .ok (.nx env2) st2 ∧ I [] env2 st2
  | [], env, st, i => ⟨env, st, by unfold frGo; rw [if_pos (hs _ _ _ i)], i⟩
  | x :: xs, env, st, i => by
    obtain ⟨env1, e1, env2, st2, e2, i2⟩ := h x xs env st i
    obtain ⟨env3, st3, e3, i3⟩ := fr_ind I hs h xs env2 st2 i2
    refine ⟨env3, st3, ?_, i3⟩
    unfold frGo
    rw [if_pos (hs _ _ _ i), e1]
    rcases e2 with e2 | e2 <;> exact (congrArg (fun z => R.bind z _) e2).trans e3
/-- a comprehension that writes nothing -/
theorem lc_pure {r : Ev} {t : T} {k e : E} {env : Env} {src : List (Nat × O)} {st : Sto} (p : D → Bool) (f : D → D) (hs : srcOk st src = true) : ∀ (xs acc : List D), (∀ x ∈ xs, ∃ env1, T.take t x env = some env1 ∧ r.t k env1 st = .ok (p x) st ∧ (p x = true → r.e e env1 st = .ok (f x) st)) → lcGo r t k e env src xs acc st = .ok (acc.reverse ++ (xs.filter p).map f) st
  | [], acc, _ => by unfold lcGo; rw [if_pos hs]; simp
  | x :: xs, acc, h => by
    obtain ⟨env1, e1, e2, e3⟩ := h x (by simp)
    unfold lcGo
    rw [if_pos hs, e1]
    show R.bind (R.val (r.t k env1 st)) _ = _
    rw [e2, r_val, r_bind]
    cases hp : p x with
    | false =>
      rw [if_neg (by decide), lc_pure p f hs xs acc fun y hy => h y (by simp [hy])]
      simp [hp]
    | true =>
      rw [if_pos rfl, e3 hp, r_val, r_bind, lc_pure p f hs xs (f x :: acc) fun y hy => h y (by simp [hy])]
      simp [hp]
/-! calls -/
theorem call_eqM {r : Ev} {i : Nat} {fn : Fn} {ds : List D} {st : Sto} {m : Nat} (hi : nth P i = some fn) (hl : ds.length = fn.ps) (hm : closeM st 30 (D.topL ds) = m) (h0 : D.lowL m ds = true) (hb : stBelow m (st.take m) = true) (hle : m ≤ st.length) : callF P r i ds st = (match (body r fn.body (Env.new fn.ns ds) (st.take m)).bind (fin m) with
          | .ok d st1 => lay m d st1 st
          | .ex x _ => if D.lowL 0 x.fs then .ex x st else .no
          | .no => .no) := by
  rw [callF_eq hi, if_pos (by simp [hl]), hm]
  unfold callM
  rw [if_pos (by rw [h0, hb, slen_eq]; simp [Nat.ble_eq, hle])]
  all_goals rfl
theorem lay_nil (m : Nat) (d : D) (st1 st : Sto) (h : st1.length = m) : lay m d st1 st = .ok d (st1 ++ st.drop m) := by
  unfold lay
  cases e : st.drop m with
  | nil => simp
  | cons p q => rw [List.drop_of_length_le (by omega)]
theorem fin_low {m : Nat} {d : D} {st1 g : Sto} (h : st1.length = m) (hb : stBelow m st1 = true) (hd : D.low m d = true) : fin m d (st1 ++ g) = .ok d st1 := by
  unfold fin
  rw [slen_eq]
  by_cases hg : g = []
  · subst hg
    rw [if_pos (by simp [Nat.ble_eq]; omega), List.append_nil]
  · have : 0 < g.length := List.length_pos_iff.mpr hg
    rw [if_neg (by simp [Nat.ble_eq]; omega), List.take_left' h, if_pos hb, if_pos hd]
/-- a call that works on the store's beginning and gives a datum of it -/
theorem call_m {r : Ev} {i m : Nat} {fn : Fn} {ds : List D} {a j a' g : Sto} {d : D} (hi : nth P i = some fn) (hl : ds.length = fn.ps) (hm : closeM (a ++ j) 30 (D.topL ds) = m) (h0 : D.lowL m ds = true) (hb : stBelow m a = true) (ha : a.length = m) (ha' : a'.length = m) (hb' : stBelow m a' = true) (hd : D.low m d = true)
    (e : r.s fn.body (Env.new fn.ns ds) a = .ok (.rt d) (a' ++ g)) : callF P r i ds (a ++ j) = .ok d (a' ++ j) := by
  rw [call_eqM hi hl hm h0 (by rw [List.take_left' ha]; exact hb) (by rw [List.length_append]; omega), List.take_left' ha]
  unfold body
  rw [e]
  show (match fin m d (a' ++ g) with
          | .ok d st1 => lay m d st1 (a ++ j)
          | .ex x _ => if D.lowL 0 x.fs then .ex x (a ++ j) else .no
          | .no => .no) = _
  rw [fin_low ha' hb' hd]
  show lay m d a' (a ++ j) = _
  rw [lay_nil _ _ _ _ ha', List.drop_left' ha]
/-- … and gives a new thing that leans on nothing -/
theorem call_mn {r : Ev} {i m l : Nat} {fn : Fn} {ds : List D} {a j a' g : Sto} {o : O} (hi : nth P i = some fn) (hl : ds.length = fn.ps) (hm : closeM (a ++ j) 30 (D.topL ds) = m) (h0 : D.lowL m ds = true) (hb : stBelow m a = true) (ha : a.length = m) (ha' : a'.length = m) (hb' : stBelow m a' = true) (hlm : m ≤ l) (hg : sget (a' ++ g) l = some o) (ho : O.low m o = true)
    (e : r.s fn.body (Env.new fn.ns ds) a = .ok (.rt (.ref l)) (a' ++ g)) : callF P r i ds (a ++ j) = .ok (.ref (a ++ j).length) (a' ++ j ++ [o]) := by
  rw [call_eqM hi hl hm h0 (by rw [List.take_left' ha]; exact hb) (by rw [List.length_append]; omega), List.take_left' ha]
  unfold body
  rw [e]
  have hgl : g ≠ [] := fun z => by
    subst z
    rw [List.append_nil, sget_eq, List.getElem?_eq_none (by omega)] at hg
    cases hg
  have hf : fin m (.ref l) (a' ++ g) = .ok (.ref m) (a' ++ [o]) := by
    unfold fin
    have : 0 < g.length := List.length_pos_iff.mpr hgl
    rw [slen_eq, if_neg (by simp [Nat.ble_eq]; omega), List.take_left' ha', if_pos hb', if_neg (by simp [D.low]; omega)]
    simp only [hg]
    rw [if_pos ho]
  show (match fin m (.ref l) (a' ++ g) with
          | .ok d st1 => lay m d st1 (a ++ j)
          | .ex x _ => if D.lowL 0 x.fs then .ex x (a ++ j) else .no
          | .no => .no) = _
  rw [hf]
  show lay m (.ref m) (a' ++ [o]) (a ++ j) = _
  unfold lay
  rw [List.drop_left' ha, List.drop_left' ha']
  cases j with
  | nil => simp [ha]
  | cons p q =>
    show (if (([] : Sto).isEmpty && O.low m o && stBelow m ((a' ++ [o]).take m) && D.isAt m (D.ref m)) = true then R.ok (D.ref (slen (a ++ p :: q))) ((a' ++ [o]).take m ++ (p :: q) ++ [o]) else _) = _
    rw [List.take_left' ha', if_pos (by rw [ho, hb']; simp [D.isAt]), slen_eq]
/-- a call over values alone -/
theorem call_0 {r : Ev} {i : Nat} {fn : Fn} {ds : List D} {st g : Sto} {d : D} (hi : nth P i = some fn) (hl : ds.length = fn.ps) (h0 : D.lowL 0 ds = true) (e : r.s fn.body (Env.new fn.ns ds) [] = .ok (.rt d) g) (hd : D.low 0 d = true) : callF P r i ds st = .ok d st :=
  call_m (a := []) (j := st) (a' := []) (g := g) hi hl (by rw [topL0 h0, close0]) h0 rfl rfl rfl rfl hd e
theorem call_0n {r : Ev} {i l : Nat} {fn : Fn} {ds : List D} {st g : Sto} {o : O} (hi : nth P i = some fn) (hl : ds.length = fn.ps) (h0 : D.lowL 0 ds = true) (e : r.s fn.body (Env.new fn.ns ds) [] = .ok (.rt (.ref l)) g) (hg : sget g l = some o) (ho : O.low 0 o = true) : callF P r i ds st = .ok (.ref st.length) (st ++ [o]) :=
  call_mn (a := []) (j := st) (a' := []) (g := g) hi hl (by rw [topL0 h0, close0]) h0 rfl rfl rfl rfl (Nat.zero_le _) hg ho e
end
end Ev
end

section
set_option autoImplicit false
set_option Elab.async false
set_option linter.all false
set_option maxRecDepth 100000
/-! Cm: what the laws have in common: cells, digits, draws, picks. -/
namespace Ev
open PySem (Str)
section
variable {P : List Fn} {c : Nat} {env : Env} {st : Sto}
/-! numbers -/
theorem lt_ii (a b : Int) : ltR (.int a) (.int b) = some (decide (a < b)) := by simp [ltR, cmpOk, D.plain, D.pl, D.alike, D.isNon, D.lt]
theorem gt_ii (a b : Int) : gtR (.int a) (.int b) = some (decide (b < a)) := by simp [gtR, cmpOk, D.plain, D.pl, D.alike, D.isNon, D.lt]
theorem eq_ii (a b : Int) (st : Sto) : eqR st (.int a) (.int b) = some (a == b) := by simp [eqR, D.plain, D.pl, D.eqv]
theorem mul_r {i j : Int} (h : j.natAbs < 1000000) : mulOk i j = true := by
  unfold mulOk
  rw [Bool.or_eq_true, Bool.and_eq_true, decide_eq_true_iff, decide_eq_true_iff, Bool.and_eq_true, decide_eq_true_iff, decide_eq_true_iff]
  omega
theorem mul_l {i j : Int} (h : i.natAbs < 1000000) : mulOk i j = true := by
  unfold mulOk
  rw [Bool.or_eq_true, Bool.and_eq_true, decide_eq_true_iff, decide_eq_true_iff, Bool.and_eq_true, decide_eq_true_iff, decide_eq_true_iff]
  omega
theorem binop_mul (i j : Int) (st : Sto) : binop .mul (.int i) (.int j) st = if mulOk i j = true then .ok (.int (i * j)) st else .no := rfl
theorem v_var {i : Nat} {d : D} (h : env.get i = some d) : (EL P c).e (.var i) env st = .ok d st := by rw [le_var, h, okO_s]
theorem v_add {x y : E} {i j : Int} {s1 s2 : Sto} (ex : (EL P c).e x env st = .ok (.int i) s1) (ey : (EL P c).e y env s1 = .ok (.int j) s2) : (EL P c).e (.bin .add x y) env st = .ok (.int (i + j)) s2 := by
  rw [le_bin, ex, r_bind, ey, r_bind]; rfl
theorem v_sub {x y : E} {i j : Int} {s1 s2 : Sto} (ex : (EL P c).e x env st = .ok (.int i) s1) (ey : (EL P c).e y env s1 = .ok (.int j) s2) : (EL P c).e (.bin .sub x y) env st = .ok (.int (i - j)) s2 := by
  rw [le_bin, ex, r_bind, ey, r_bind]; rfl
theorem v_mul {x y : E} {i j : Int} {s1 s2 : Sto} (h : mulOk i j = true) (ex : (EL P c).e x env st = .ok (.int i) s1) (ey : (EL P c).e y env s1 = .ok (.int j) s2) : (EL P c).e (.bin .mul x y) env st = .ok (.int (i * j)) s2 := by
  rw [le_bin, ex, r_bind, ey, r_bind, binop_mul, if_pos h, r_val]
theorem v_mod {x y : E} {i j : Int} {s1 s2 : Sto} (h : (j != 0) = true) (ex : (EL P c).e x env st = .ok (.int i) s1) (ey : (EL P c).e y env s1 = .ok (.int j) s2) : (EL P c).e (.bin .mod x y) env st = .ok (.int (i.fmod j)) s2 := by
  rw [le_bin, ex, r_bind, ey, r_bind]
  show R.val (if (j != 0) = true then _ else _) = _
  rw [if_pos h]; rfl
theorem v_div {x y : E} {i j : Int} {s1 s2 : Sto} (h : (j != 0 && decide (j.natAbs < 1073741824)) = true) (ex : (EL P c).e x env st = .ok (.int i) s1) (ey : (EL P c).e y env s1 = .ok (.int j) s2) : (EL P c).e (.bin .fdiv x y) env st = .ok (.int (i.fdiv j)) s2 := by
  rw [le_bin, ex, r_bind, ey, r_bind]
  show R.val (if (j != 0 && decide (j.natAbs < 1073741824)) = true then _ else _) = _
  rw [if_pos h]; rfl
theorem v_int {x : E} {i : Int} {s1 : Sto} (h : asRng x = none) (ex : (EL P c).e x env st = .ok (.int i) s1) : (EL P c).e (.blt .int (.cons x .nil)) env st = .ok (.int i) s1 := by
  rw [le_blt, show oneE (.cons x .nil) = x from rfl, h]
  simp only [les_cons, ex, les_nil, r_bind]
  rfl
theorem v_len {x : E} {d : D} {n : Nat} {s1 : Sto} (h : asRng x = none) (ex : (EL P c).e x env st = .ok d s1) (hn : lenR d s1 = some n) : (EL P c).e (.blt .len (.cons x .nil)) env st = .ok (.int n) s1 := by
  rw [le_blt, show oneE (.cons x .nil) = x from rfl, h]
  simp only [les_cons, ex, les_nil, r_bind, bltA, walks, bltV, blt1, hn, Bool.false_eq_true, if_false, r_val]
theorem v_cst (d : D) : (EL P c).e (.cst d) env st = .ok d st := by simp
theorem t_lt {x y : E} {i j : Int} {s1 s2 : Sto} (ex : (EL P c).e x env st = .ok (.int i) s1) (ey : (EL P c).e y env s1 = .ok (.int j) s2) : (EL P c).t (.val (.cmp .lt x y)) env st = .ok (decide (i < j)) s2 := by
  rw [lt_val, le_cmp, ex, r_bind, ey, r_bind]
  simp only [cmpop, lt_ii, ofB_s, r_bind, truth, okO_s]
theorem t_gt {x y : E} {i j : Int} {s1 s2 : Sto} (ex : (EL P c).e x env st = .ok (.int i) s1) (ey : (EL P c).e y env s1 = .ok (.int j) s2) : (EL P c).t (.val (.cmp .gt x y)) env st = .ok (decide (j < i)) s2 := by
  rw [lt_val, le_cmp, ex, r_bind, ey, r_bind]
  simp only [cmpop, gt_ii, ofB_s, r_bind, truth, okO_s]
theorem t_ge {x y : E} {i j : Int} {s1 s2 : Sto} (ex : (EL P c).e x env st = .ok (.int i) s1) (ey : (EL P c).e y env s1 = .ok (.int j) s2) : (EL P c).t (.val (.cmp .ge x y)) env st = .ok (!decide (i < j)) s2 := by
  rw [lt_val, le_cmp, ex, r_bind, ey, r_bind]
  simp only [cmpop, lt_ii, ofB_s, r_bind, truth, okO_s]
theorem small_of {n : Nat} (h : n ≤ 16777216) : small n = true := by simp [small, line, Nat.ble_eq, h]
mutual
theorem low_mono {m n : Nat} (h : m ≤ n) : ∀ {d : D}, D.low m d = true → D.low n d = true
  | .ref l, e => by
    have : l < m := by simpa [D.low] using e
    simp [D.low]; omega
  | .tup xs, e => low_monoL h (ds := xs) e
  | .non, _ => rfl
  | .bl _, _ => rfl
  | .int _, _ => rfl
  | .str _, _ => rfl
  | .fn _, _ => rfl
  | .rol _, _ => rfl
theorem low_monoL {m n : Nat} (h : m ≤ n) : ∀ {ds : List D}, D.lowL m ds = true → D.lowL n ds = true
  | [], _ => rfl
  | x :: xs, e => by
    have e : D.low m x = true ∧ D.lowL m xs = true := by simpa [D.lowL] using e
    simp [D.lowL, low_mono h e.1, low_monoL h e.2]
end
theorem lowL_all {n : Nat} : ∀ {ds : List D}, (∀ d ∈ ds, D.low n d = true) → D.lowL n ds = true
  | [], _ => rfl
  | d :: ds, h => by simp [D.lowL, h d (by simp), lowL_all (ds := ds) fun x hx => h x (by simp [hx])]
/-! the box -/
def Bx (ds : List Int) (k : Nat) (J : Sto) : Sto := .lst (ds.map .int) :: .lst [.ref 0, .int k] :: J
theorem low_ints (n : Nat) : ∀ ds : List Int, D.lowL n (ds.map .int) = true
  | [] => rfl
  | d :: ds => by show (D.low n (.int d) && D.lowL n (ds.map .int)) = true; rw [low_ints n ds]; rfl
theorem top_ints : ∀ ds : List Int, D.topL (ds.map .int) = 0
  | [] => rfl
  | d :: ds => by show maxN (D.top (.int d)) (D.topL (ds.map .int)) = 0; rw [top_ints ds]; rfl
theorem bx_ix (ds : List Int) (j : Nat) (J : Sto) (i : Nat) : sget (Bx ds j J) (i + 2) = J[i]? := by
  rw [sget_eq]; rfl
theorem bx_set (ds : List Int) (j : Nat) (J : Sto) (i : Nat) (o : O) : sput (Bx ds j J) (i + 2) o = Bx ds j (J.set i o) := by
  rw [sput_eq]; rfl
@[simp] theorem bx_0 (ds : List Int) (j : Nat) (J : Sto) : sget (Bx ds j J) 0 = some (.lst (ds.map .int)) := rfl
@[simp] theorem bx_1 (ds : List Int) (j : Nat) (J : Sto) : sget (Bx ds j J) 1 = some (.lst [.ref 0, .int j]) := rfl
theorem bx_app (ds : List Int) (j : Nat) (J K : Sto) : Bx ds j J ++ K = Bx ds j (J ++ K) := rfl
theorem bx_len (ds : List Int) (j : Nat) (J : Sto) : (Bx ds j J).length = J.length + 2 := rfl
theorem bx_close (ds : List Int) (k : Nat) (J : Sto) : closeM (Bx ds k J) 30 2 = 2 := by
  unfold closeM
  rw [if_pos]
  show Nat.ble (maxN (D.topL (ds.map .int)) _) 2 = true
  rw [top_ints]; rfl
theorem bx_b (ds : List Int) (k : Nat) : stBelow 2 (Bx ds k []) = true := by
  show (D.lowL 2 (ds.map .int) && _) = true
  rw [low_ints]; rfl
/-- a call with the box alone -/
theorem call_bx {r : Ev} {i : Nat} {fn : Fn} {vs : List D} {ds : List Int} {k k' : Nat} {J G : Sto} {d : D} (hi : nth P i = some fn) (hl : vs.length + 1 = fn.ps) (h0 : D.lowL 0 vs = true) (hd : D.low 0 d = true) (e : r.s fn.body (Env.new fn.ns (.ref 1 :: vs)) (Bx ds k []) = .ok (.rt d) (Bx ds k' G)) : callF P r i (.ref 1 :: vs) (Bx ds k J) = .ok d (Bx ds k' J) := by
  have ht : D.topL (.ref 1 :: vs) = 2 := by show maxN 2 (D.topL vs) = 2; rw [topL0 h0]; rfl
  refine call_m (m := 2) (a := Bx ds k []) (j := J) (a' := Bx ds k' []) (g := G) hi (by simpa using hl) ?_ ?_ (bx_b ds k) rfl rfl (bx_b ds k') (low_mono (Nat.zero_le _) hd) e
  · rw [ht]; exact bx_close ds k J
  · show (D.low 2 (.ref 1) && D.lowL 2 vs) = true
    rw [low_monoL (Nat.zero_le _) h0]; rfl
theorem call_bxn {r : Ev} {i l : Nat} {fn : Fn} {vs : List D} {ds : List Int} {k k' : Nat} {J G : Sto} {o : O} (hi : nth P i = some fn) (hl : vs.length + 1 = fn.ps) (h0 : D.lowL 0 vs = true) (hg : G[l]? = some o) (ho : O.low 2 o = true) (e : r.s fn.body (Env.new fn.ns (.ref 1 :: vs)) (Bx ds k []) = .ok (.rt (.ref (l + 2))) (Bx ds k' G)) : callF P r i (.ref 1 :: vs) (Bx ds k J) = .ok (.ref (J.length + 2)) (Bx ds k' (J ++ [o])) := by
  have ht : D.topL (.ref 1 :: vs) = 2 := by show maxN 2 (D.topL vs) = 2; rw [topL0 h0]; rfl
  refine call_mn (m := 2) (l := l + 2) (a := Bx ds k []) (j := J) (a' := Bx ds k' []) (g := G) hi (by simpa using hl) ?_ ?_ (bx_b ds k) rfl rfl (bx_b ds k') (by omega) ?_ ho e
  · rw [ht]; exact bx_close ds k J
  · show (D.low 2 (.ref 1) && D.lowL 2 vs) = true
    rw [low_monoL (Nat.zero_le _) h0]; rfl
  · rw [bx_app, bx_ix]; simpa using hg
/-! draws -/
def B_draw : S := (.seq (.asg (.nm 2) (.idx (.var 0) (.cst (.int 1)))) (.seq (.sto (.var 0) (.cst (.int 1)) (.bin .add (.var 2) (.cst (.int 1)))) (.seq (.ife (.val (.cmp .lt (.var 2) (.blt .len (.cons (.idx (.var 0) (.cst (.int 0))) .nil)))) (.seq (.ret (.bin .mod (.blt .int (.cons (.idx (.idx (.var 0) (.cst (.int 0))) (.var 2)) .nil)) (.var 1))) .skip) .skip) (.seq (.ret (.bin .mod (.blt .int (.cons (.bin .mul (.var 2) (.cst (.int 7))) .nil)) (.var 1))) .skip))))
def F_draw : Fn := ⟨2, 3, B_draw⟩
def rawD (ds : List Int) (k : Nat) : Int := if h : k < ds.length then ds[k] else k * 7
def drawN (ds : List Int) (k many : Nat) : Nat := ((rawD ds k).fmod many).toNat
theorem drawN_lt (ds : List Int) (k : Nat) {many : Nat} (h : 0 < many) : drawN ds k many < many := by
  have h1 : 0 ≤ (rawD ds k).fmod many := Int.fmod_nonneg_of_pos _ (by omega)
  have h2 : (rawD ds k).fmod many < many := Int.fmod_lt_of_pos _ (by omega)
  unfold drawN; omega
theorem drawN_eq (ds : List Int) (k : Nat) {many : Nat} (h : 0 < many) : (rawD ds k).fmod many = (drawN ds k many : Int) := by
  have h1 : 0 ≤ (rawD ds k).fmod many := Int.fmod_nonneg_of_pos _ (by omega)
  unfold drawN; omega
theorem draw {i : Nat} (hi : nth P i = some F_draw) (ds : List Int) (k many : Nat) (J : Sto) (hm : 0 < many) : callF P (EL P c) i [.ref 1, .int many] (Bx ds k J) = .ok (.int (drawN ds k many)) (Bx ds (k + 1) J) := by
  refine call_bx (fn := F_draw) (vs := [.int many]) (G := []) hi rfl rfl rfl ?_
  have e := drawN_eq ds k hm
  unfold rawD at e
  show (EL P c).s B_draw [some (.ref 1), some (.int many), none] (.lst (ds.map .int) :: .lst [.ref 0, .int k] :: []) = .ok (.rt (.int (drawN ds k many))) (.lst (ds.map .int) :: .lst [.ref 0, .int ((k + 1 : Nat) : Int)] :: [])
  by_cases h : k < ds.length
  · rw [dif_pos h] at e
    simp [B_draw, item, sgetR, binop, store, setN, cmpop, bltA, walks, bltV, blt1, lenR, lt_ii, truth, asRng, oneE, h, at_nat, e, Nat.ne_of_gt hm]
  · rw [dif_neg h] at e
    simp [B_draw, item, sgetR, binop, store, setN, cmpop, bltA, walks, bltV, blt1, lenR, lt_ii, truth, asRng, oneE, h, mulOk, e, Nat.ne_of_gt hm]
/-- a draw as an expression, from the slot of the box -/
theorem drawX {i b : Nat} (hi : nth P i = some F_draw) {ds : List Int} {k many : Nat} {J J' : Sto} {e : E} {k' : Nat} (hm : 0 < many) (hb : env.get b = some (.ref 1)) (he : (EL P (c + 1)).e e env (Bx ds k J) = .ok (.int many) (Bx ds k' J')) : (EL P (c + 1)).e (.call i (.cons (.var b) (.cons e .nil))) env (Bx ds k J) = .ok (.int (drawN ds k' many)) (Bx ds (k' + 1) J') := by
  rw [le_call, les_cons, v_var hb, r_bind, les_cons, he, r_bind, les_nil, r_bind, r_bind, r_bind]
  exact draw hi ds k' many J' hm
/-! cells, digits -/
def B_cell : S := (.seq (.ife (.val (.cmp .lt (.var 1) (.blt .len (.cons (.var 0) .nil)))) (.seq (.ret (.idx (.var 0) (.var 1))) .skip) .skip) (.seq (.ret (.cst (.int 0))) .skip))
def F_cell : Fn := ⟨2, 2, B_cell⟩
theorem cell {i : Nat} (hi : nth P i = some F_cell) (ns : List Int) (k : Nat) (st : Sto) : ∃ x : Int, callF P (EL P c) i [.rol ns, .int k] st = .ok (.int x) st := by
  by_cases h : k < ns.length
  · refine ⟨ns[k], call_0 (fn := F_cell) (g := []) hi rfl rfl ?_ rfl⟩
    have : (k : Int) < ns.length := by omega
    simp [F_cell, B_cell, item, bltA, walks, bltV, blt1, lenR, cmpop, lt_ii, truth, asRng, oneE, this, at_nat, h]
  · refine ⟨0, call_0 (fn := F_cell) (g := []) hi rfl rfl ?_ rfl⟩
    have : ¬ (k : Int) < ns.length := by omega
    simp [F_cell, B_cell, item, bltA, walks, bltV, blt1, lenR, cmpop, lt_ii, truth, asRng, oneE, this, h]
def B1 : S := .seq (.ife (.val (.cmp .gt (.var 5) (.cst (.int 0)))) (.seq (.exp (.mth .append (.var 3) (.cons (.bin .mod (.blt .int (.cons (.var 5) .nil)) (.cst (.int 1000))) .nil))) (.seq (.asg (.nm 5) (.bin .fdiv (.var 5) (.cst (.int 1000)))) .skip)) .skip) .skip
def B2 : S := .seq (.asg (.nm 7) (.bin .mod (.blt .int (.cons (.bin .add (.bin .add (.bin .mul (.var 7) (.cst (.int 16807))) (.bin .mul (.cst (.int 7)) (.var 6))) (.cst (.int 1))) .nil)) (.cst (.int 2147483647)))) (.seq (.exp (.mth .append (.var 3) (.cons (.bin .mod (.blt .int (.cons (.bin .fdiv (.var 7) (.cst (.int 997))) .nil)) (.cst (.int 1000))) .nil))) .skip)
def F1 : S := .seq (.fr (.nm 6) (.blt .range (.cons (.cst (.int 60)) .nil)) B1) .skip
def F2 : S := .seq (.asg (.nm 7) (.bin .mod (.blt .int (.cons (.bin .add (.bin .add (.bin .mul (.var 5) (.cst (.int 48271))) (.bin .mul (.var 4) (.cst (.int 69621)))) (.cst (.int 11))) .nil)) (.cst (.int 2147483647)))) (.seq (.fr (.nm 6) (.blt .range (.cons (.cst (.int 12)) .nil)) B2) .skip)
def B4 : S := .seq (.ife (.val (.cmp .ge (.var 5) (.bin .pow (.cst (.int 10)) (.cst (.int 18))))) F1 F2) .skip
def T5 : S := .ife (.val (.cmp .gt (.blt .len (.cons (.var 3) .nil)) (.cst (.int 1500)))) (.seq .brk .skip) .skip
def A5 (ic : Nat) : S := .asg (.nm 5) (.call ic (.cons (.var 0) (.cons (.var 4) .nil)))
def N5 : S := .ife (.val (.cmp .lt (.var 5) (.cst (.int 0)))) (.seq (.asg (.nm 5) (.bin .sub (.cst (.int 1)) (.bin .mul (.cst (.int 2)) (.var 5)))) .skip) .skip
def B3 (ic : Nat) : S := .seq (A5 ic) (.seq N5 (.seq T5 B4))
def B_digits (ic : Nat) : S := .seq (.asg (.nm 3) (.lst .nil)) (.seq (.fr (.nm 4) (.blt .range (.cons (.var 1) (.cons (.var 2) .nil))) (B3 ic)) (.seq (.ret (.var 3)) .skip))
def F_digits (ic : Nat) : Fn := ⟨3, 8, B_digits ic⟩
/-- what the digits stand in -/
def Ds (ds : List Int) : Sto := [.lst (ds.map .int)]
def En (ns : List Int) (a b d e : Option D) : Env := [some (.rol ns), some (.int 0), some (.int 63), some (.ref 0), a, b, d, e]
theorem dapp {e : E} {ns : List Int} {a b d f : Option D} {ds : List Int} {x : Int} (hl : ds.length ≤ 5000) (he : (EL P c).e e (En ns a b d f) (Ds ds) = .ok (.int x) (Ds ds)) : (EL P c).e (.mth .append (.var 3) (.cons e .nil)) (En ns a b d f) (Ds ds) = .ok .non (Ds (ds ++ [x])) := by
  have hs : sget (Ds ds) 0 = some (.lst (ds.map .int)) := rfl
  have hb : Nat.blt (ds.map D.int).length line = true := by
    rw [List.length_map]
    simp [Nat.blt_eq, line]; omega
  rw [le_mth, v_var (d := .ref 0) rfl, r_bind]
  simp only [kdOf, hs, hasM, if_true, les_cons, he, les_nil, r_bind, mthV, mthL, mthL1]
  rw [if_pos hb, r_val, Ds, Ds, sput_0, List.map_append]
  rfl
theorem d_b1 (ns : List Int) (a d f : Option D) (v : Int) (ds : List Int) (hl : ds.length ≤ 5000) : ∃ v' ds', ds'.length ≤ ds.length + 1 ∧ (EL P c).s B1 (En ns a (some (.int v)) d f) (Ds ds) = .ok (.nx (En ns a (some (.int v')) d f)) (Ds ds') := by
  have t := t_gt (P := P) (c := c) (st := Ds ds) (v_var (env := En ns a (some (.int v)) d f) (i := 5) rfl) (v_cst (.int 0))
  by_cases h : 0 < v
  · refine ⟨v.fdiv 1000, ds ++ [v.fmod 1000], by simp, ?_⟩
    rw [decide_eq_true h] at t
    unfold B1
    refine (q_ifN t (by rw [q_exp (dapp hl (v_mod (j := 1000) rfl (v_int rfl (v_var rfl)) (v_cst _))), q_asg (v_div (j := 1000) rfl (v_var rfl) (v_cst _)), ls_skip])).trans ?_
    rw [ls_skip]
    rfl
  · refine ⟨v, ds, by simp, ?_⟩
    rw [decide_eq_false h] at t
    unfold B1
    rw [q_iff t, ls_skip]
theorem d_l1 (ns : List Int) (a f : Option D) : ∀ (xs : List D) (d : Option D) (v : Int) (ds : List Int), ds.length + xs.length ≤ 5000 → ∃ v' d' ds', ds'.length ≤ ds.length + xs.length ∧ frGo (EL P c) (.nm 6) B1 [] xs (En ns a (some (.int v)) d f) (Ds ds) = .ok (.nx (En ns a (some (.int v')) d' f)) (Ds ds')
  | [], d, v, ds, _ => ⟨v, d, ds, by simp, rfl⟩
  | x :: xs, d, v, ds, h => by
    rw [List.length_cons] at h
    obtain ⟨v1, ds1, h1, e1⟩ := d_b1 (P := P) (c := c) ns a (some x) f v ds (by omega)
    obtain ⟨v2, c2, ds2, h2, e2⟩ := d_l1 ns a f xs (some x) v1 ds1 (by omega)
    refine ⟨v2, c2, ds2, by rw [List.length_cons]; omega, ?_⟩
    rw [frGo_c, take_nm]
    simp only []
    rw [show Env.put (En ns a (some (.int v)) d f) 6 x = En ns a (some (.int v)) (some x) f from rfl, e1, r_bind]
    exact e2
theorem d_b2 (ns : List Int) (a b : Option D) (t v : Int) (ds : List Int) (hl : ds.length ≤ 5000) : ∃ v' x, (EL P c).s B2 (En ns a b (some (.int t)) (some (.int v))) (Ds ds) = .ok (.nx (En ns a b (some (.int t)) (some (.int v')))) (Ds (ds ++ [x])) := by
  refine ⟨(v * 16807 + 7 * t + 1).fmod 2147483647, (((v * 16807 + 7 * t + 1).fmod 2147483647).fdiv 997).fmod 1000, ?_⟩
  unfold B2
  rw [q_asg (v_mod (j := 2147483647) rfl (v_int rfl (v_add (v_add (v_mul (j := 16807) (mul_r (by decide)) (v_var rfl) (v_cst _)) (v_mul (i := 7) (mul_l (by decide)) (v_cst _) (v_var rfl))) (v_cst (.int 1)))) (v_cst _))]
  generalize (v * 16807 + 7 * t + 1).fmod 2147483647 = w
  show (EL P c).s _ (En ns a b (some (.int t)) (some (.int w))) (Ds ds) = _
  rw [q_exp (dapp hl (v_mod (j := 1000) rfl (v_int rfl (v_div (j := 997) rfl (v_var rfl) (v_cst _))) (v_cst _))), ls_skip]
theorem d_l2 (ns : List Int) (a b : Option D) : ∀ (m : Nat) (s : Int) (d : Option D) (v : Int) (ds : List Int), ds.length + m ≤ 5000 → ∃ v' d' ds', ds'.length ≤ ds.length + m ∧ frGo (EL P c) (.nm 6) B2 [] (intsFrom s m) (En ns a b d (some (.int v))) (Ds ds) = .ok (.nx (En ns a b d' (some (.int v')))) (Ds ds')
  | 0, s, d, v, ds, _ => ⟨v, d, ds, by simp, rfl⟩
  | m + 1, s, d, v, ds, h => by
    obtain ⟨v1, x, e1⟩ := d_b2 (P := P) (c := c) ns a b s v ds (by omega)
    obtain ⟨v2, c2, ds2, h2, e2⟩ := d_l2 ns a b m (s + 1) (some (.int s)) v1 (ds ++ [x]) (by simp; omega)
    refine ⟨v2, c2, ds2, by simp at h2; omega, ?_⟩
    rw [intsFrom, frGo_c, take_nm]
    simp only []
    rw [show Env.put (En ns a b d (some (.int v))) 6 (.int s) = En ns a b (some (.int s)) (some (.int v)) from rfl, e1, r_bind]
    exact e2
theorem pow18 (st : Sto) : binop .pow (.int 10) (.int 18) st = .ok (.int 1000000000000000000) st := by simp [binop]
theorem d_b4 (ns : List Int) (k : Nat) (d f : Option D) (v : Int) (ds : List Int) (hl : ds.length ≤ 1500) : ∃ (b' d' f' : Option D) (ds' : List Int), ds'.length ≤ 1600 ∧ (EL P c).s B4 (En ns (some (.int k)) (some (.int v)) d f) (Ds ds) = .ok (.nx (En ns (some (.int k)) b' d' f')) (Ds ds') := by
  have t := t_ge (P := P) (c := c) (st := Ds ds) (v_var (env := En ns (some (.int k)) (some (.int v)) d f) (i := 5) rfl) (y := .bin .pow (.cst (.int 10)) (.cst (.int 18))) (j := 1000000000000000000) (by rw [le_bin, le_cst, r_bind, le_cst, r_bind, pow18, r_val])
  by_cases h : v < 1000000000000000000
  · rw [decide_eq_true h] at t
    obtain ⟨v3, d3, ds3, h3, e3⟩ := d_l2 (P := P) (c := c) ns (some (.int k)) (some (.int v)) 12 0 d ((v * 48271 + k * 69621 + 11).fmod 2147483647) ds (by omega)
    refine ⟨some (.int v), d3, some (.int v3), ds3, by omega, ?_⟩
    unfold B4
    refine (q_elN t (st2 := Ds ds3) (env2 := En ns (some (.int k)) (some (.int v)) d3 (some (.int v3))) ?_).trans (by rw [ls_skip])
    unfold F2
    rw [q_asg (v_mod (j := 2147483647) rfl (v_int rfl (v_add (v_add (v_mul (j := 48271) (mul_r (by decide)) (v_var rfl) (v_cst _)) (v_mul (i := k) (j := 69621) (mul_r (by decide)) (v_var rfl) (v_cst _))) (v_cst (.int 11)))) (v_cst _))]
    exact (q_fr (I := ⟨intsFrom 0 12, [], false⟩) (st1 := Ds ds) rfl (by rw [li_range, rng_1 (v_cst (.int 12)) (by decide)]; rfl) e3).trans (by rw [ls_skip])
  · rw [decide_eq_false h] at t
    obtain ⟨v1, d1, ds1, h1, e1⟩ := d_l1 (P := P) (c := c) ns (some (.int k)) f (intsFrom 0 60) d v ds (by rw [ints_len]; omega)
    rw [ints_len] at h1
    refine ⟨some (.int v1), d1, f, ds1, by omega, ?_⟩
    unfold B4
    refine (q_ifN t (st2 := Ds ds1) (env2 := En ns (some (.int k)) (some (.int v1)) d1 f) ?_).trans (by rw [ls_skip])
    unfold F1
    exact (q_fr (I := ⟨intsFrom 0 60, [], false⟩) (st1 := Ds ds) rfl (by rw [li_range, rng_1 (v_cst (.int 60)) (by decide)]; rfl) e1).trans (by rw [ls_skip])
theorem d_b3 {ic : Nat} (hi : nth P ic = some F_cell) (ns : List Int) (k : Nat) (b d f : Option D) (ds : List Int) (hl : ds.length ≤ 1600) : ∃ (b' d' f' : Option D) (ds' : List Int), ds'.length ≤ 1600 ∧ ((EL P (c + 1)).s (B3 ic) (En ns (some (.int k)) b d f) (Ds ds) = .ok (.nx (En ns (some (.int k)) b' d' f')) (Ds ds') ∨ (EL P (c + 1)).s (B3 ic) (En ns (some (.int k)) b d f) (Ds ds) = .ok (.bk (En ns (some (.int k)) b' d' f')) (Ds ds')) := by
  obtain ⟨x, ex⟩ := cell (c := c) hi ns k (Ds ds)
  unfold B3 A5
  rw [q_asg (d := .int x) (st' := Ds ds) (by
    rw [le_call, les_cons, v_var (d := .rol ns) rfl, r_bind, les_cons, v_var (d := .int k) rfl, r_bind, les_nil, r_bind, r_bind, r_bind]
    exact ex)]
  obtain ⟨x1, e1⟩ : ∃ x1 : Int, (EL P (c + 1)).s N5 (En ns (some (.int k)) (some (.int x)) d f) (Ds ds) = .ok (.nx (En ns (some (.int k)) (some (.int x1)) d f)) (Ds ds) := by
    have t := t_lt (P := P) (c := c + 1) (st := Ds ds) (v_var (env := En ns (some (.int k)) (some (.int x)) d f) (i := 5) rfl) (v_cst (.int 0))
    unfold N5
    by_cases h : x < 0
    · rw [decide_eq_true h] at t
      refine ⟨1 - 2 * x, ?_⟩
      rw [ls_ife, t, r_bind, if_pos rfl, q_asg (v_sub (v_cst (.int 1)) (v_mul (i := 2) (mul_l (by decide)) (v_cst _) (v_var rfl))), ls_skip]
      rfl
    · rw [decide_eq_false h] at t
      exact ⟨x, by rw [ls_ife, t, r_bind, if_neg (by decide), ls_skip]⟩
  show ∃ b' d' f' ds', _ ∧ ((EL P (c + 1)).s _ (En ns (some (.int k)) (some (.int x)) d f) (Ds ds) = _ ∨ (EL P (c + 1)).s _ (En ns (some (.int k)) (some (.int x)) d f) (Ds ds) = _)
  rw [q_seq e1]
  have t := t_gt (P := P) (c := c + 1) (st := Ds ds) (v_len (x := .var 3) (n := ds.length) rfl (v_var (env := En ns (some (.int k)) (some (.int x1)) d f) (d := .ref 0) rfl) (by simp [lenR, Ds])) (v_cst (.int 1500))
  unfold T5
  by_cases h : (1500 : Int) < ds.length
  · rw [decide_eq_true h] at t
    refine ⟨some (.int x1), d, f, ds, hl, .inr ?_⟩
    exact q_ifB t (by rw [ls_seq, ls_brk, r_bind])
  · rw [decide_eq_false h] at t
    obtain ⟨b', d', f', ds', h1, e2⟩ := d_b4 (P := P) (c := c + 1) ns k d f x1 ds (by omega)
    exact ⟨b', d', f', ds', h1, .inl (by rw [q_iff t]; exact e2)⟩
theorem d_l3 {ic : Nat} (hi : nth P ic = some F_cell) (ns : List Int) : ∀ (m s : Nat) (a b d f : Option D) (ds : List Int), ds.length ≤ 1600 → ∃ (a' b' d' f' : Option D) (ds' : List Int), frGo (EL P (c + 1)) (.nm 4) (B3 ic) [] (intsFrom s m) (En ns a b d f) (Ds ds) = .ok (.nx (En ns a' b' d' f')) (Ds ds')
  | 0, s, a, b, d, f, ds, _ => ⟨a, b, d, f, ds, rfl⟩
  | m + 1, s, a, b, d, f, ds, h => by
    obtain ⟨b1, c1, d1, ds1, h1, e1⟩ := d_b3 (c := c) hi ns s b d f ds h
    rw [intsFrom, frGo_c, take_nm]
    simp only []
    rw [show Env.put (En ns a b d f) 4 (.int (s : Int)) = En ns (some (.int s)) b d f from rfl]
    rcases e1 with e1 | e1
    · obtain ⟨a2, b2, c2, d2, ds2, e2⟩ := d_l3 hi ns m (s + 1) (some (.int s)) b1 c1 d1 ds1 h1
      refine ⟨a2, b2, c2, d2, ds2, ?_⟩
      rw [e1, r_bind]
      exact e2
    · exact ⟨some (.int s), b1, c1, d1, ds1, by rw [e1, r_bind]⟩
theorem digits {ic i : Nat} (hc : nth P ic = some F_cell) (hi : nth P i = some (F_digits ic)) (ns : List Int) : ∃ ds : List Int, callF P (EL P (c + 1)) i [.rol ns, .int 0, .int 63] [] = .ok (.ref 0) (Ds ds) := by
  obtain ⟨a, b, d, f, ds, e⟩ := d_l3 (c := c) hc ns 63 0 none none none none [] (by simp)
  refine ⟨ds, ?_⟩
  have e2 : (EL P (c + 1)).s (B_digits ic) [some (.rol ns), some (.int 0), some (.int 63), none, none, none, none, none] [] = .ok (.rt (.ref 0)) (Ds ds) := by
    unfold B_digits
    rw [q_asg (d := .ref 0) (st' := Ds []) (by rw [le_lst, les_nil, r_bind, if_pos (by decide)]; rfl)]
    show (EL P (c + 1)).s _ (En ns none none none none) (Ds []) = _
    rw [q_fr (I := ⟨intsFrom 0 63, [], false⟩) (st1 := Ds []) rfl (by rw [li_range, rng_2 (m := 0) (n := 63) (v_var rfl) (v_var rfl) (by decide) (by decide)]; rfl) e]
    exact q_ret (v_var rfl)
  exact call_0n (fn := F_digits ic) (l := 0) (o := .lst (ds.map .int)) hi rfl rfl e2 rfl (low_ints 0 ds)
/-- the law's first row -/
theorem box_made {ic i : Nat} (hc : nth P ic = some F_cell) (hi : nth P i = some (F_digits ic)) (ns : List Int) (n : Nat) (env : Env) (h0 : env.get 0 = some (.rol ns)) : ∃ ds : List Int, (EL P (c + 2)).e (.lst (.cons (.call i (.cons (.var 0) (.cons (.cst (.int 0)) (.cons (.cst (.int 63)) .nil)))) (.cons (.cst (.int 0)) .nil))) env [] = .ok (.ref 1) (Bx ds 0 []) := by
  obtain ⟨ds, e⟩ := digits (c := c) hc hi ns
  refine ⟨ds, ?_⟩
  rw [le_lst, les_cons, le_call, les_cons, v_var h0, r_bind, les_cons, le_cst, r_bind, les_cons, le_cst, r_bind, les_nil, r_bind, r_bind, r_bind, r_bind, e, r_bind, les_cons, le_cst, r_bind, les_nil, r_bind, r_bind, r_bind, if_pos (by decide)]
  rfl
end
end Ev
end

section
set_option autoImplicit false
set_option Elab.async false
set_option linter.all false
set_option maxRecDepth 100000
/-! Cm2: picks, drawn turnings. -/
namespace Ev
open PySem (Str)
section
variable {P : List Fn} {c : Nat} {env : Env} {st : Sto}
def B_pick (id : Nat) : S := (.seq (.ret (.idx (.var 1) (.bin .mod (.blt .int (.cons (.call id (.cons (.var 0) (.cons (.cst (.int 900)) .nil))) .nil)) (.blt .len (.cons (.var 1) .nil))))) .skip)
def F_pick (id : Nat) : Fn := ⟨2, 2, B_pick id⟩
theorem fmod_nat (a b : Nat) : (a : Int).fmod b = ((a % b : Nat) : Int) := by
  rw [Int.fmod_eq_emod_of_nonneg _ (by omega)]; rfl
theorem v_item {x y : E} {d e f : D} {s1 s2 : Sto} (ex : (EL P c).e x env st = .ok d s1) (ey : (EL P c).e y env s1 = .ok e s2) (h : item d e s2 = .ok f s2) : (EL P c).e (.idx x y) env st = .ok f s2 := by
  rw [le_idx, ex, r_bind, ey, r_bind, h, r_val]
theorem item_lst {l : Nat} {xs : List D} (h : sget st l = some (.lst xs)) {k : Nat} (hk : k < xs.length) : item (.ref l) (.int k) st = .ok xs[k] st := by
  simp only [item, sgetR, h, at_nat xs k hk]
theorem item_tup {xs : List D} {k : Nat} (hk : k < xs.length) : item (.tup xs) (.int k) st = .ok xs[k] st := by
  simp only [item, at_nat xs k hk]
theorem pick_body {id : Nat} (hd : nth P id = some F_draw) {ds : List Int} {k : Nat} {J : Sto} {d : D} {xs : List D} (hl : ∀ k, lenR d (Bx ds k J) = some xs.length) (hx : 0 < xs.length) (hit : ∀ (q : Nat) (h : q < xs.length), item d (.int q) (Bx ds (k + 1) J) = .ok xs[q] (Bx ds (k + 1) J)) : (EL P (c + 1)).s (B_pick id) [some (.ref 1), some d] (Bx ds k J) = .ok (.rt (xs[drawN ds k 900 % xs.length]'(Nat.mod_lt _ hx))) (Bx ds (k + 1) J) := by
  have e1 := drawX (c := c) (b := 0) (env := [some (.ref 1), some d]) hd (ds := ds) (k := k) (J := J) (many := 900) (by decide) rfl (v_cst (.int 900))
  have e2 := v_mod (j := (xs.length : Int)) (bne_iff_ne.mpr (by omega)) (v_int rfl e1) (v_len (x := .var 1) rfl (v_var (d := d) rfl) (hl (k + 1)))
  rw [fmod_nat] at e2
  unfold B_pick
  exact q_ret (v_item (v_var (d := d) rfl) e2 (hit _ _))
/-- a pick out of a list -/
theorem pick_lst {id i l : Nat} (hd : nth P id = some F_draw) (hi : nth P i = some (F_pick id)) {ds : List Int} {k : Nat} {J : Sto} {xs : List D} (hJ : J[l]? = some (.lst xs)) (hx : 0 < xs.length) : callF P (EL P (c + 1)) i [.ref 1, .ref (l + 2)] (Bx ds k J) = .ok (xs[drawN ds k 900 % xs.length]'(Nat.mod_lt _ hx)) (Bx ds (k + 1) J) := by
  have key : ∀ J : Sto, J[l]? = some (.lst xs) → (EL P (c + 1)).s (B_pick id) [some (.ref 1), some (.ref (l + 2))] (Bx ds k J) = .ok (.rt (xs[drawN ds k 900 % xs.length]'(Nat.mod_lt _ hx))) (Bx ds (k + 1) J) := fun J hJ =>
    pick_body hd (fun k => by simp [lenR, bx_ix, hJ]) hx fun q h => item_lst (by rw [bx_ix, hJ]) h
  rw [callF_eq hi, if_pos (by rfl)]
  generalize closeM (Bx ds k J) 30 (D.topL [.ref 1, .ref (l + 2)]) = m
  unfold callM
  by_cases hc : (D.lowL m [.ref 1, .ref (l + 2)] && stBelow m ((Bx ds k J).take m) && Nat.ble m (slen (Bx ds k J))) = true
  · rw [if_pos hc]
    rw [Bool.and_eq_true, Bool.and_eq_true] at hc
    have hm : l + 2 < m := by
      have := hc.1.1
      simp [D.lowL, D.low] at this
      omega
    obtain ⟨q, rfl⟩ : ∃ q, m = q + 2 := ⟨m - 2, by omega⟩
    have hle : q + 2 ≤ J.length + 2 := by
      have := Nat.le_of_ble_eq_true hc.2
      rwa [slen_eq, bx_len] at this
    have ht : (Bx ds k J).take (q + 2) = Bx ds k (J.take q) := rfl
    have := key (J.take q) (by rw [List.getElem?_take_of_lt (by omega)]; exact hJ)
    unfold body
    rw [ht, show (F_pick id).body = B_pick id from rfl, show Env.new (F_pick id).ns [D.ref 1, D.ref (l + 2)] = [some (.ref 1), some (.ref (l + 2))] from rfl, this]
    have hf : ∀ d, fin (q + 2) d (Bx ds (k + 1) (J.take q)) = .ok d (Bx ds (k + 1) (J.take q)) := fun d => by
      unfold fin
      rw [if_pos (by rw [slen_eq, bx_len, List.length_take]; simp [Nat.ble_eq]; omega)]
    simp only [r_bind, hf]
    rw [lay_nil _ _ _ _ (by rw [bx_len, List.length_take]; omega), bx_app, show (Bx ds k J).drop (q + 2) = J.drop q from rfl, List.take_append_drop]
  · rw [if_neg hc]
    unfold body
    rw [show (F_pick id).body = B_pick id from rfl, show Env.new (F_pick id).ns [D.ref 1, D.ref (l + 2)] = [some (.ref 1), some (.ref (l + 2))] from rfl, key J hJ]
    simp only [r_bind]
    unfold fin
    rw [if_pos (by rw [slen_eq, slen_eq, bx_len, bx_len]; simp [Nat.ble_eq])]
/-- a pick out of a tuple -/
theorem pick_tup {id i : Nat} (hd : nth P id = some F_draw) (hi : nth P i = some (F_pick id)) {ds : List Int} {k : Nat} {J : Sto} {xs : List D} (h0 : D.lowL 0 xs = true) (hx : 0 < xs.length) : callF P (EL P (c + 1)) i [.ref 1, .tup xs] (Bx ds k J) = .ok (xs[drawN ds k 900 % xs.length]'(Nat.mod_lt _ hx)) (Bx ds (k + 1) J) := by
  have low_at : ∀ (xs : List D) (q : Nat) (h : q < xs.length), D.lowL 0 xs = true → D.low 0 xs[q] = true := by
    intro xs
    induction xs with
    | nil => intro q h; simp at h
    | cons x xs ih =>
      intro q h h0
      have h0 : D.low 0 x = true ∧ D.lowL 0 xs = true := by simpa [D.lowL] using h0
      cases q with
      | zero => exact h0.1
      | succ q => exact ih q (by simpa using h) h0.2
  refine call_bx (fn := F_pick id) (vs := [.tup xs]) (G := []) hi rfl (by simp [D.lowL, D.low, h0]) (low_at _ _ _ h0) ?_
  exact pick_body hd (fun k => rfl) hx fun q h => item_tup h
/-! a drawn turning -/
def TB (id : Nat) : S := .seq (.asg (.nm 5) (.call id (.cons (.var 0) (.cons (.blt .len (.cons (.var 2) .nil)) .nil)))) (.seq (.exp (.mth .append (.var 3) (.cons (.idx (.var 2) (.var 5)) .nil))) (.seq (.asg (.nm 2) (.bin .add (.slc (.var 2) .none (.var 5)) (.slc (.var 2) (.bin .add (.var 5) (.cst (.int 1))) .none))) .skip))
def B_turning (id : Nat) : S := .seq (.par 2 3 (.blt .list (.cons (.blt .range (.cons (.var 1) .nil)) .nil)) (.lst .nil)) (.seq (.fr (.nm 4) (.blt .range (.cons (.var 1) .nil)) (TB id)) (.seq (.ret (.blt .tuple (.cons (.var 3) .nil))) .skip))
def F_turning (id : Nat) : Fn := ⟨2, 6, B_turning id⟩
def Et (m : D) (l f : Nat) (w v : Option D) : Env := [some (.ref 1), some m, some (.ref l), some (.ref f), w, v]
def tp (l : List Int) : D := .tup (l.map .int)
theorem cut_hd (xs : List D) (r : Nat) (h : r < xs.length) : cutL xs none (some (r : Int)) = xs.take r := by
  unfold cutL cutAt
  simp [Nat.blt_eq, h]
theorem cut_tl (xs : List D) (r : Nat) (h : r < xs.length) : cutL xs (some ((r : Int) + 1)) none = xs.drop (r + 1) := by
  have e : ((r : Int) + 1) = Int.ofNat (r + 1) := rfl
  rw [e]
  unfold cutL cutAt
  by_cases h2 : r + 1 < xs.length
  · simp [Nat.blt_eq, h2]
    rw [List.take_of_length_le (by simp)]
  · simp [Nat.blt_eq, h2]
    omega
theorem v_append {x y : E} {l : Nat} {d : D} {ys xs : List D} {s1 s2 : Sto} (ex : (EL P c).e x env st = .ok (.ref l) s1) (h1 : sget s1 l = some (.lst ys)) (ey : (EL P c).e y env s1 = .ok d s2) (h2 : sget s2 l = some (.lst xs)) (hb : xs.length < 16777216) : (EL P c).e (.mth .append x (.cons y .nil)) env st = .ok .non (sput s2 l (.lst (xs ++ [d]))) := by
  rw [le_mth, ex, r_bind]
  simp only [kdOf, h1, hasM, if_true, les_cons, ey, les_nil, r_bind, mthV, mthL, mthL1, h2]
  rw [if_pos (by simp [Nat.blt_eq, line, hb]), r_val]
theorem tstep {id : Nat} (hd : nth P id = some F_draw) (ds : List Int) (j : Nat) (J : Sto) (m : D) (l f : Nat) (w v : Option D) (xs zs : List Int) (hl : J[l]? = some (.lst (xs.map .int))) (hf : J[f]? = some (.lst (zs.map .int))) (hx : 0 < xs.length) (hx2 : xs.length ≤ 1000) (hz2 : zs.length ≤ 1000) (hne : l ≠ f) :
    ∃ (r : Nat) (hr : r < xs.length), r = drawN ds j xs.length ∧ (EL P (c + 1)).s (TB id) (Et m (l + 2) (f + 2) w v) (Bx ds j J) = .ok (.nx (Et m (J.length + 2 + 2) (f + 2) w (some (.int r)))) (Bx ds (j + 1) (J.set f (.lst ((zs ++ [xs[r]]).map .int)) ++ [.lst ((xs.take r).map .int)] ++ [.lst ((xs.drop (r + 1)).map .int)] ++ [.lst ((xs.take r ++ xs.drop (r + 1)).map .int)])) := by
  have hlen : (EL P (c + 1)).e (.blt .len (.cons (.var 2) .nil)) (Et m (l + 2) (f + 2) w v) (Bx ds j J) = .ok (.int xs.length) (Bx ds j J) := v_len rfl (v_var (d := .ref (l + 2)) rfl) (by simp [lenR, bx_ix, hl])
  have e1 := drawX (b := 0) hd hx rfl hlen
  have hr := drawN_lt ds j hx
  refine ⟨drawN ds j xs.length, hr, rfl, ?_⟩
  generalize drawN ds j xs.length = r at hr e1
  unfold TB
  rw [q_asg e1]
  show (EL P (c + 1)).s _ (Et m (l + 2) (f + 2) w (some (.int r))) _ = _
  rw [q_exp (v_append (ys := zs.map .int) (v_var (d := .ref (f + 2)) rfl) (by rw [bx_ix, hf]) (v_item (v_var (d := .ref (l + 2)) rfl) (v_var (d := .int r) rfl) (item_lst (xs := xs.map .int) (by rw [bx_ix, hl]) (by simpa using hr))) (xs := zs.map .int) (by rw [bx_ix, hf]) (by simp; omega))]
  rw [bx_set, show zs.map D.int ++ [(xs.map D.int)[r]'(by simpa using hr)] = (zs ++ [xs[r]]).map D.int by simp]
  have hl2 : (J.set f (.lst ((zs ++ [xs[r]]).map .int)))[l]? = some (.lst (xs.map .int)) := by
    rw [List.getElem?_set_ne (Ne.symm hne)]
    exact hl
  generalize hJ1 : J.set f (.lst ((zs ++ [xs[r]]).map .int)) = J1 at hl2
  have hlenJ : J1.length = J.length := by rw [← hJ1, List.length_set]
  have hll : l < J1.length := (List.getElem?_eq_some_iff.mp hl2).1
  have e3 : (EL P (c + 1)).e (.slc (.var 2) .none (.var 5)) (Et m (l + 2) (f + 2) w (some (.int r))) (Bx ds (j + 1) J1) = .ok (.ref (J1.length + 2)) (Bx ds (j + 1) (J1 ++ [.lst ((xs.take r).map .int)])) := by
    rw [le_slc, v_var (d := .ref (l + 2)) rfl, r_bind]
    simp only [opt, r_bind, v_var (env := Et m (l + 2) (f + 2) w (some (.int r))) (i := 5) (d := .int r) rfl, cut, bx_ix, hl2, cut_hd (xs.map D.int) r (by simpa using hr), new, r_val]
    rw [List.map_take]
    rfl
  have hl3 : (J1 ++ [O.lst ((xs.take r).map D.int)])[l]? = some (.lst (xs.map .int)) := by
    rw [List.getElem?_append_left hll]
    exact hl2
  have e4 : (EL P (c + 1)).e (.slc (.var 2) (.bin .add (.var 5) (.cst (.int 1))) .none) (Et m (l + 2) (f + 2) w (some (.int r))) (Bx ds (j + 1) (J1 ++ [.lst ((xs.take r).map .int)])) = .ok (.ref (J1.length + 1 + 2)) (Bx ds (j + 1) (J1 ++ [.lst ((xs.take r).map .int)] ++ [.lst ((xs.drop (r + 1)).map .int)])) := by
    have ea := v_add (P := P) (c := c + 1) (st := Bx ds (j + 1) (J1 ++ [.lst ((xs.take r).map .int)])) (v_var (env := Et m (l + 2) (f + 2) w (some (.int r))) (i := 5) (d := .int r) rfl) (v_cst (.int 1))
    rw [le_slc, v_var (d := .ref (l + 2)) rfl, r_bind]
    simp only [opt, r_bind, ea, cut, bx_ix, hl3, cut_tl (xs.map D.int) r (by simpa using hr), new, r_val]
    rw [List.map_drop]
    simp [Bx]
  rw [q_asg (d := .ref (J.length + 2 + 2)) (st' := Bx ds (j + 1) (J1 ++ [.lst ((xs.take r).map .int)] ++ [.lst ((xs.drop (r + 1)).map .int)] ++ [.lst ((xs.take r ++ xs.drop (r + 1)).map .int)])) (by
    rw [le_bin, e3, r_bind, e4, r_bind]
    have g1 : (J1 ++ [O.lst ((xs.take r).map D.int)] ++ [O.lst ((xs.drop (r + 1)).map D.int)])[J1.length]? = some (.lst ((xs.take r).map .int)) := by simp
    have g2 : (J1 ++ [O.lst ((xs.take r).map D.int)] ++ [O.lst ((xs.drop (r + 1)).map D.int)])[J1.length + 1]? = some (.lst ((xs.drop (r + 1)).map .int)) := by simp
    have hs : small (((xs.take r).map D.int).length + ((xs.drop (r + 1)).map D.int).length) = true := small_of (by simp; omega)
    simp only [binop, bx_ix, g1, g2, hs, if_true, new, r_val]
    rw [List.map_append, ← hlenJ]
    simp [Bx]), ls_skip]
  rfl
/-- the turning that draws make -/
def drawT (ds : List Int) : Nat → Nat → List Int → List Int
  | _, 0, _ => []
  | j, n + 1, xs => xs.getD (drawN ds j xs.length) 0 :: drawT ds (j + 1) n (xs.take (drawN ds j xs.length) ++ xs.drop (drawN ds j xs.length + 1))
theorem tloop {id : Nat} (hd : nth P id = some F_draw) (ds : List Int) (m : D) : ∀ (its : List D) (j : Nat) (J : Sto) (l f : Nat) (w v : Option D) (xs zs : List Int), J[l]? = some (.lst (xs.map .int)) → J[f]? = some (.lst (zs.map .int)) → xs.length = its.length → xs.length + zs.length ≤ 1000 → l ≠ f →
    ∃ (l' : Nat) (w' v' : Option D) (J' : Sto), frGo (EL P (c + 1)) (.nm 4) (TB id) [] its (Et m (l + 2) (f + 2) w v) (Bx ds j J) = .ok (.nx (Et m (l' + 2) (f + 2) w' v')) (Bx ds (j + its.length) J') ∧ J'[f]? = some (.lst ((zs ++ drawT ds j its.length xs).map .int))
  | [], j, J, l, f, w, v, xs, zs, hl, hf, hx, hb, hne => ⟨l, w, v, J, rfl, by simpa [drawT] using hf⟩
  | it :: its, j, J, l, f, w, v, xs, zs, hl, hf, hx, hb, hne => by
    have hx0 : 0 < xs.length := by rw [hx]; simp
    obtain ⟨r, hr, er, e⟩ := tstep (c := c) hd ds j J m l f (some it) v xs zs hl hf hx0 (by omega) (by omega) hne
    have hfl : f < J.length := (List.getElem?_eq_some_iff.mp hf).1
    have e0 : (J.set f (.lst ((zs ++ [xs[r]]).map .int)) ++ [.lst ((xs.take r).map .int)] ++ [.lst ((xs.drop (r + 1)).map .int)] ++ [.lst ((xs.take r ++ xs.drop (r + 1)).map .int)])[J.length + 2]? = some (O.lst ((xs.take r ++ xs.drop (r + 1)).map .int)) := by simp
    have e1 : (J.set f (.lst ((zs ++ [xs[r]]).map .int)) ++ [.lst ((xs.take r).map .int)] ++ [.lst ((xs.drop (r + 1)).map .int)] ++ [.lst ((xs.take r ++ xs.drop (r + 1)).map .int)])[f]? = some (O.lst ((zs ++ [xs[r]]).map .int)) := by
      rw [List.append_assoc, List.append_assoc, List.getElem?_append_left (by rw [List.length_set]; exact hfl), List.getElem?_set_self hfl]
    obtain ⟨l', w', v', J', e2, hf'⟩ := tloop hd ds m its (j + 1) _ (J.length + 2) f (some it) (some (.int r)) (xs.take r ++ xs.drop (r + 1)) (zs ++ [xs[r]]) e0 e1 (by
      rw [List.length_cons] at hx
      rw [List.length_append, List.length_take, List.length_drop]; omega) (by
      rw [List.length_append, List.length_append, List.length_take, List.length_drop, List.length_singleton]; omega) (by omega)
    refine ⟨l', w', v', J', ?_, ?_⟩
    · rw [frGo_c, take_nm]
      simp only []
      rw [show Env.put (Et m (l + 2) (f + 2) w v) 4 it = Et m (l + 2) (f + 2) (some it) v from rfl, e, r_bind]
      simp only []
      rw [e2, List.length_cons, show j + 1 + its.length = j + (its.length + 1) by omega]
    · rw [hf', List.length_cons, drawT, ← er]
      simp [hr]
theorem intsFrom_map (m : Nat) : ∀ a : Nat, intsFrom (a : Int) m = ((List.range' a m).map fun (k : Nat) => (k : Int)).map D.int := by
  induction m with
  | zero => intro a; rfl
  | succ m ih =>
    intro a
    rw [List.range'_succ, List.map_cons, List.map_cons, ← ih (a + 1)]
    rfl
def iota (m : Nat) : List Int := (List.range' 0 m).map fun (k : Nat) => (k : Int)
theorem drawT_len (ds : List Int) : ∀ (n j : Nat) (xs : List Int), (drawT ds j n xs).length = n
  | 0, _, _ => rfl
  | n + 1, j, xs => by rw [drawT, List.length_cons, drawT_len ds n]
theorem turning {id i : Nat} (hd : nth P id = some F_draw) (hi : nth P i = some (F_turning id)) (ds : List Int) (j m : Nat) (J : Sto) (hm : m ≤ 1000) : callF P (EL P (c + 1)) i [.ref 1, .int m] (Bx ds j J) = .ok (tp (drawT ds j m (iota m))) (Bx ds (j + m) J) := by
  have hm62 : inR62 (m : Int) = true := hr62 m (by omega)
  have hs : small (intsFrom 0 m).length = true := small_of (by rw [ints_len]; omega)
  have er : ∀ (env : Env) (st : Sto), env.get 1 = some (.int m) → rngR (EL P (c + 1)).e (.cons (.var 1) .nil) env st = .ok (intsFrom 0 m) st := fun env st h => by
    have := rng_1 (st' := st) (v_var (P := P) (c := c + 1) (st := st) h) hm62
    rwa [Int.toNat_natCast] at this
  obtain ⟨l', w', v', J', e2, hf'⟩ := tloop (c := c) hd ds (.int m) (intsFrom 0 m) j [.lst (intsFrom 0 m), .lst []] 0 1 none none (iota m) [] (by rw [show (0 : Int) = ((0 : Nat) : Int) from rfl, intsFrom_map]; rfl) rfl (by rw [ints_len]; simp [iota]) (by simp [iota]; omega) (by decide)
  rw [ints_len] at hf' e2
  refine call_bx (fn := F_turning id) (vs := [.int m]) (G := J') hi rfl rfl (low_ints 0 _) ?_
  show (EL P (c + 1)).s (B_turning id) [some (.ref 1), some (.int m), none, none, none, none] (Bx ds j []) = _
  unfold B_turning
  rw [q_par (d := .ref 2) (d' := .ref 3) (st1 := Bx ds j [.lst (intsFrom 0 m)]) (st2 := Bx ds j [.lst (intsFrom 0 m), .lst []])
    (by rw [le_blt, show asRng (oneE (.cons (.blt .range (.cons (.var 1) .nil)) .nil)) = some (.cons (.var 1) .nil) from rfl]; simp only [er _ _ (show Env.get [some (.ref 1), some (.int m), none, none, none, none] 1 = some (.int m) from rfl), r_bind, hs, if_true, new]; rfl)
    (by rw [le_lst, les_nil, r_bind, if_pos (by decide)]; rfl)]
  show (EL P (c + 1)).s _ (Et (.int m) 2 3 none none) _ = _
  rw [q_fr (I := ⟨intsFrom 0 m, [], false⟩) rfl (by rw [li_range, er _ _ rfl, r_bind]) e2]
  refine q_ret ?_
  have hg : sget (Bx ds (j + m) J') 3 = some (.lst ((drawT ds j m (iota m)).map .int)) := by
    rw [show 3 = 1 + 2 from rfl, bx_ix, hf']
    rfl
  have hs2 : small ((drawT ds j m (iota m)).map D.int).length = true := small_of (by rw [List.length_map, drawT_len]; omega)
  rw [le_blt, show asRng (oneE (.cons (.var 3) .nil)) = none from rfl]
  simp only [les_cons, les_nil, v_var (env := Et (.int m) (l' + 2) 3 w' v') (i := 3) (d := .ref 3) rfl, r_bind, bltA, walks, if_true, rowOf, hg, bltI, hs2, r_val]
  rfl
/-- all ways to pick -/
def picks : Nat → List Int → List (List Int)
  | 0, _ => [[]]
  | m + 1, xs => (List.range xs.length).flatMap fun r => (picks m (xs.take r ++ xs.drop (r + 1))).map fun p => xs.getD r 0 :: p
theorem drawT_mem (ds : List Int) : ∀ (n j : Nat) (xs : List Int), xs.length = n → drawT ds j n xs ∈ picks n xs
  | 0, _, _, _ => by simp [drawT, picks]
  | n + 1, j, xs, h => by
    rw [drawT, picks, List.mem_flatMap]
    have hr := drawN_lt ds j (many := xs.length) (by omega)
    exact ⟨_, List.mem_range.mpr hr, List.mem_map.mpr ⟨_, drawT_mem ds n (j + 1) _ (by rw [List.length_append, List.length_take, List.length_drop]; omega), rfl⟩⟩
end
end Ev
end

section
set_option autoImplicit false
set_option Elab.async false
set_option linter.all false
set_option maxRecDepth 100000
/-! Seg: a body cut into rows of statements, looked at one by one. -/
namespace Ev
open PySem (Str)
def nthS : S → Nat → S
  | .seq a b, i => (match i with | 0 => a | i + 1 => nthS b i)
  | s, _ => s
/-- statements one by one -/
def runS (r : Ev) : List S → Env → Sto → R Env
  | [], env, st => .ok env st
  | a :: as, env, st => (r.s a env st).bind fun o st => match o with
    | .nx env => runS r as env st
    | _ => .no
theorem lift_runS {ι : Type} {L : Lift ι} {F : ι → Ev} (h : LiftEv L F) : ∀ (as : List S) (env : Env) (st : Sto), L.Rel fun i => runS (F i) as env st
  | [], env, st => L.const _
  | a :: as, env, st => by
    refine L.bind (h.s _ _ _) fun o st => ?_
    cases o with
    | nx env => exact lift_runS h as _ _
    | _ => exact L.const _
theorem runS_el {P : List Fn} {n c d : Nat} {as : List S} {env : Env} {st : Sto} {x : R Env} (h : runS (evR P n c) as env st = x) (hx : x ≠ .no) (hd : c ≤ d) : runS (EL P d) as env st = x := by
  have u := lift_runS (evR_le P n hd) as env st
  rw [← h]
  exact u (by show runS (evR P n c) as env st ≠ .no; rw [h]; exact hx)
theorem runS_seq {P : List Fn} {c : Nat} : ∀ (as : List S) (b : S) (env : Env) (st : Sto) {env' : Env} {st' : Sto}, runS (EL P c) as env st = .ok env' st' → (EL P c).s (as.foldr .seq b) env st = (EL P c).s b env' st'
  | [], b, env, st, env', st', h => by cases h; rfl
  | a :: as, b, env, st, env', st', h => by
    have h : ((EL P c).s a env st).bind (fun o st => match o with | .nx env => runS (EL P c) as env st | _ => .no) = .ok env' st' := h
    cases e : (EL P c).s a env st with
    | no => rw [e] at h; cases h
    | ex _ _ => rw [e] at h; cases h
    | ok o st1 =>
      rw [e] at h
      cases o with
      | nx env1 =>
        show (EL P c).s (.seq a (as.foldr .seq b)) env st = _
        rw [q_seq e]
        exact runS_seq as b env1 st1 h
      | _ => cases h
def isOk {α : Type} : R α → Bool
  | .ok _ _ => true
  | _ => false
def gE : R Env → Env
  | .ok e _ => e
  | _ => []
def gS {α : Type} : R α → Sto
  | .ok _ s => s
  | _ => []
theorem ok_of {r : R Env} (h : isOk r = true) : r = .ok (gE r) (gS r) := by
  cases r <;> first | rfl | cases h
theorem ne_no {α : Type} {r : R α} (h : isOk r = true) : r ≠ .no := fun z => by rw [z] at h; cases h
/-- a value that was looked at -/
def gD : R D → D
  | .ok d _ => d
  | _ => .non
theorem ok_ofD {r : R D} (h : isOk r = true) : r = .ok (gD r) (gS r) := by
  cases r <;> first | rfl | cases h
theorem e_el {P : List Fn} {n c d : Nat} {e : E} {env : Env} {st : Sto} {x : R D} (h : (evR P n c).e e env st = x) (hx : x ≠ .no) (hd : c ≤ d) : (EL P d).e e env st = x := by
  have u := (evR_le P n hd).e e env st
  rw [← h]
  exact u (by show (evR P n c).e e env st ≠ .no; rw [h]; exact hx)
theorem t_el {P : List Fn} {n c d : Nat} {e : E} {env : Env} {st : Sto} {x : R Bool} (h : (evR P n c).t e env st = x) (hx : x ≠ .no) (hd : c ≤ d) : (EL P d).t e env st = x := by
  have u := (evR_le P n hd).t e env st
  rw [← h]
  exact u (by show (evR P n c).t e env st ≠ .no; rw [h]; exact hx)
theorem s_el {P : List Fn} {n c d : Nat} {e : S} {env : Env} {st : Sto} {x : R Out} (h : (evR P n c).s e env st = x) (hx : x ≠ .no) (hd : c ≤ d) : (EL P d).s e env st = x := by
  have u := (evR_le P n hd).s e env st
  rw [← h]
  exact u (by show (evR P n c).s e env st ≠ .no; rw [h]; exact hx)
theorem call_el {P : List Fn} {n c d f : Nat} {ds : List D} {st : Sto} {x : R D} (h : callF P (evR P n c) f ds st = x) (hx : x ≠ .no) (hd : c ≤ d) : callF P (EL P d) f ds st = x := by
  have u := lift_callF P (evR_le P n hd) f ds st
  rw [← h]
  exact u (by show callF P (evR P n c) f ds st ≠ .no; rw [h]; exact hx)
/-- a call over values alone, looked at over the empty store -/
theorem call_st0 {P : List Fn} {r : Ev} {i : Nat} {ds : List D} {d : D} {g : Sto} (h : callF P r i ds [] = .ok d g) (h0 : D.lowL 0 ds = true) (hd : D.low 0 d = true) (st : Sto) : callF P r i ds st = .ok d st := by
  unfold callF at h ⊢
  cases e : nth P i with
  | none => rw [e] at h; cases h
  | some f =>
    rw [e] at h
    have h : (if (ds.length == f.ps) = true then (if D.lowL 0 ds = true then call0 r f ds [] else callM (closeM [] 30 (D.topL ds)) r f ds []) else .no) = .ok d g := h
    show (if (ds.length == f.ps) = true then (if D.lowL 0 ds = true then call0 r f ds st else callM (closeM st 30 (D.topL ds)) r f ds st) else .no) = .ok d st
    by_cases hl : (ds.length == f.ps) = true
    · rw [if_pos hl, if_pos h0] at h ⊢
      unfold call0 at h ⊢
      cases eb : (body r f.body (Env.new f.ns ds) []).bind (fin 0) with
      | no => rw [eb] at h; cases h
      | ex x s => rw [eb] at h; have h : (if D.lowL 0 x.fs = true then R.ex x [] else .no) = .ok d g := h; split at h <;> cases h
      | ok d1 st1 =>
        rw [eb] at h
        have h : R.ok d1 st1 = .ok d g := h
        have hs : st1 = g := by cases h; rfl
        have hdd : d1 = d := by cases h; rfl
        subst hs hdd
        show lay 0 d1 st1 st = _
        have : st1 = [] := by
          cases e2 : body r f.body (Env.new f.ns ds) [] with
          | no => rw [e2] at eb; cases eb
          | ex x s => rw [e2] at eb; cases eb
          | ok d2 st2 =>
            rw [e2] at eb
            have eb : fin 0 d2 st2 = .ok d1 st1 := eb
            cases st2 with
            | nil => cases eb; rfl
            | cons o q =>
              have eb : (if D.low 0 d2 = true then R.ok d2 ([] : Sto) else match (generalizing := false) d2 with
                | .ref l => (match sget (o :: q) l with
                  | some o' => if O.low 0 o' then .ok (.ref 0) [o'] else .ok d2 (o :: q)
                  | none => .no)
                | _ => .ok d2 (o :: q)) = .ok d1 st1 := eb
              by_cases hl2 : D.low 0 d2 = true
              · rw [if_pos hl2] at eb; cases eb; rfl
              · rw [if_neg hl2] at eb
                split at eb
                · split at eb
                  · split at eb
                    · cases eb; cases hd
                    · cases eb; exact absurd hd hl2
                  · cases eb
                · cases eb; exact absurd hd hl2
        subst this
        exact lay_nil 0 d1 [] st rfl
    · rw [if_neg hl] at h
      cases h
/-- … that makes one thing -/
theorem call_st0n {P : List Fn} {r : Ev} {i : Nat} {ds : List D} {o : O} (h : callF P r i ds [] = .ok (.ref 0) [o]) (h0 : D.lowL 0 ds = true) (ho : O.low 0 o = true) (st : Sto) : callF P r i ds st = .ok (.ref st.length) (st ++ [o]) := by
  unfold callF at h ⊢
  cases e : nth P i with
  | none => rw [e] at h; cases h
  | some f =>
    rw [e] at h
    have h : (if (ds.length == f.ps) = true then (if D.lowL 0 ds = true then call0 r f ds [] else callM (closeM [] 30 (D.topL ds)) r f ds []) else .no) = .ok (.ref 0) [o] := h
    show (if (ds.length == f.ps) = true then (if D.lowL 0 ds = true then call0 r f ds st else callM (closeM st 30 (D.topL ds)) r f ds st) else .no) = _
    by_cases hl : (ds.length == f.ps) = true
    · rw [if_pos hl, if_pos h0] at h ⊢
      unfold call0 at h ⊢
      cases eb : (body r f.body (Env.new f.ns ds) []).bind (fin 0) with
      | no => rw [eb] at h; cases h
      | ex x s => rw [eb] at h; have h : (if D.lowL 0 x.fs = true then R.ex x [] else .no) = R.ok (D.ref 0) [o] := h; split at h <;> cases h
      | ok d1 st1 =>
        rw [eb] at h
        have h : R.ok d1 st1 = R.ok (D.ref 0) [o] := h
        cases h
        show lay 0 (.ref 0) [o] st = _
        cases st with
        | nil => rfl
        | cons p q =>
          show (if (([] : Sto).isEmpty && O.low 0 o && stBelow 0 (([o] : Sto).take 0) && D.isAt 0 (D.ref 0)) = true then R.ok (D.ref (slen (p :: q))) (([o] : Sto).take 0 ++ (p :: q) ++ [o]) else _) = _
          rw [if_pos (by rw [ho]; rfl), slen_eq]
          rfl
    · rw [if_neg hl] at h
      cases h
/-- a call that writes nothing -/
theorem call_keepM {P : List Fn} {r : Ev} {i : Nat} {fn : Fn} {ds : List D} {st : Sto} {d : D} (hi : nth P i = some fn) (hl : ds.length = fn.ps) (hds : D.lowL st.length ds = true) (e : ∀ m, D.lowL m ds = true → r.s fn.body (Env.new fn.ns ds) (st.take m) = .ok (.rt d) (st.take m)) : callF P r i ds st = .ok d st := by
  rw [callF_eq hi, if_pos (by simp [hl])]
  generalize closeM st 30 (D.topL ds) = m
  unfold callM
  by_cases hc : (D.lowL m ds && stBelow m (st.take m) && Nat.ble m (slen st)) = true
  · rw [if_pos hc]
    rw [Bool.and_eq_true, Bool.and_eq_true] at hc
    have hle : m ≤ st.length := by
      have := Nat.le_of_ble_eq_true hc.2
      rwa [slen_eq] at this
    unfold body
    rw [e m hc.1.1]
    have hf : fin m d (st.take m) = .ok d (st.take m) := by
      unfold fin
      rw [if_pos (by rw [slen_eq, List.length_take]; simp [Nat.ble_eq]; omega)]
    simp only [r_bind, hf]
    rw [lay_nil _ _ _ _ (by rw [List.length_take]; omega), List.take_append_drop]
  · rw [if_neg hc]
    have := e st.length hds
    rw [List.take_length] at this
    unfold body
    rw [this]
    simp only [r_bind]
    unfold fin
    rw [if_pos (by rw [slen_eq]; simp [Nat.ble_eq])]
end Ev
end

section
set_option Elab.async false
set_option linter.all false
set_option maxRecDepth 100000
/-! HkI: the facts of a law's top, with imported functions among them. -/
namespace Ev
open PySem PySem.Spec L2
def nsOk (K : PySem.W.Frag) (p : Str × String) : Bool := He.eqO (PySem.W.nsIn K mainGlobals p.1) (some (some (.builtin p.2)))
abbrev AlI := He.AlD × Bool
def obsI (n : Nat) (fa : List He.Fa) (fn : List He.DefD) (ims : List (Str × String)) (g : Addr → Option Obj) : AlI := (He.obsDG n fa fn g, ims.all (nsOk (He.frG g (He.asD g n))))
def hookI (n : Nat) (fa : List He.Fa) (fn : List He.DefD) (ims : List (Str × String)) : PySem.W.Hook where
  α := AlI
  obs := fun s => obsI n fa fn ims s.heap.get?
  val := fun _ => (He.valD fn, true)
  says := fun _ h => ∃ K : PySem.W.Frag, K.In h ∧ He.SaysD fa fn K ∧ ims.all (nsOk K) = true
  of := fun _ _ e => ⟨_, He.frG_in, congrArg Prod.fst e, congrArg Prod.snd e⟩
  keeps := fun _ _ _ ⟨K, hK, c⟩ k => ⟨K, PySem.W.Frag.In.keeps hK k, c⟩
theorem obsI_eq {n : Nat} {fa : List He.Fa} {fn : List He.DefD} {ims : List (Str × String)} {g : Addr → Option Obj} {s : Shared} (h : ∀ a, g a = s.heap.get? a) : obsI n fa fn ims g = (hookI n fa fn ims).obs s := by
  have e : g = s.heap.get? := funext h
  rw [e] <;> rfl
theorem ims_ok {K : PySem.W.Frag} {h : Heap} {mg : Str → Option Value} {ims : List (Str × String)} (X : K.In h) (G : h.Ns mainGlobals mg) (c : ims.all (nsOk K) = true) (i : Nat) {x : Str} {id : String} (e : ims[i]? = some (x, id)) : mg x = some (.builtin id) :=
  PySem.W.mg_of X G (He.eqO_ok (List.all_eq_true.mp c _ (List.mem_of_getElem? e)))
end Ev
end

section
set_option Elab.async false
set_option linter.all false
set_option maxRecDepth 100000
set_option maxHeartbeats 4000000
/-! Snd25: a law's end, by the unbounded runner. -/
namespace Ev
open PySem PySem.Spec L2
/-- the law's def keeps its promise -/
theorem fn_lawE {P : List Fn} {fs : List Str} {cs : List (Str × D)} {im : List Blt} {c i : Nat} {fn : Fn} {prog : Program} {w : World} {K : PySem.W.Frag} {mg : Str → Option Value} {base : Heap} {f : Addr} {fd : FuncData} {ps N : List Str} {nm qual : Str} {params : Arguments} {body : List Stmt} {scope : Scope}
    (pr : PrgOk prog w K mg P fs cs im) (hi : nth P i = some fn) (F : FunD K nm qual params body scope [] [] f fd) (S : FnScope N ps scope) (hps : ps.length = fn.ps) (hns : N.length = fn.ns) (hck : chkSs fn.body ⟨N, scope, none, fs, cs, im⟩ body = true) :
    FnOk prog w K mg base CX0 (c + 1) f fd ps (spF K P (EL P c) i) := by
  refine F.ok S (fun vs H Q E ⟨⟨f', hf, hl⟩, _⟩ => by rw [hi] at hf; cases hf; rw [hl, hps]) fun cdv A outer s H vs Q E hr hsp => ?_
  have k : CtxOk P c ⟨N, scope, none, fs, cs, im⟩ (cxOf CX0 prog w K mg base N qual scope f cdv A outer s H E) := ⟨rfl, S.nd, rfl, S.kind, rfl, fun _ _ => rfl, hr, pr, PassesOwn.leaving⟩
  have hpl : ps.length ≤ N.length := by
    have := congrArg List.length S.pre
    rw [List.length_take] at this
    omega
  obtain ⟨hf, μ, ds, st, hS, hR, h⟩ := hsp
  obtain ⟨n, hn⟩ := el_run (P := P) (c := c) (f := i) (ds := ds) (st := st) rfl
  rw [← hn] at h
  have hsp : spF K P (ev P n c) i vs H Q E := ⟨hf, μ, ds, st, hS, hR, h⟩
  exact ⟨tS K Z0 (ev P n c) fn.body, (sound P n c _ _ k).ss fn.body body hck, body_ok hi hns (by omega) hsp⟩
end Ev
end

section
set_option Elab.async false
set_option linter.all false
set_option maxRecDepth 100000
set_option maxHeartbeats 0
namespace Hd
open PySem PySem.Spec PyProof.Rows L2
def top (i : Nat) : Stmt := PySem.Challenge.pw_turnabout_k02_sorting_sorting.main.body.getD i (.Pass ⟨0, 0, 0, 0⟩)
abbrev s_is_whole : Stmt := top 2
abbrev s_is_form : Stmt := top 3
abbrev s_first_greater : Stmt := top 5
abbrev s_tableaus : Stmt := top 6
abbrev s_turning_back : Stmt := top 7
abbrev s_is_shape : Stmt := top 8
abbrev s_how_many_fillings : Stmt := top 9
abbrev s_shapes : Stmt := top 10
abbrev s_heaps : Stmt := top 11
abbrev s_greene : Stmt := top 12
abbrev s_inversions : Stmt := top 14
abbrev s_length : Stmt := top 15
abbrev s_descents : Stmt := top 16
abbrev s_code : Stmt := top 17
abbrev s_of_code : Stmt := top 18
abbrev s_exchanged : Stmt := top 19
abbrev s_sorting : Stmt := top 20
abbrev s_sorted_by : Stmt := top 21
abbrev s_how_many_sortings : Stmt := top 22
abbrev s_below : Stmt := top 23
abbrev s_first_rising : Stmt := top 24
abbrev s_rises : Stmt := top 25
abbrev s_is_row : Stmt := top 26
abbrev s_is_rises : Stmt := top 27
abbrev s__law_cell : Stmt := top 29
abbrev s__law_digits : Stmt := top 30
abbrev s__law_draw : Stmt := top 31
abbrev s__law_pick : Stmt := top 32
abbrev s__law_like : Stmt := top 33
abbrev s__law_turning : Stmt := top 34
abbrev s__law_back : Stmt := top 35
abbrev s__law_all : Stmt := top 36
abbrev s__law_inversions : Stmt := top 37
abbrev s__law_exchanged : Stmt := top 38
abbrev s__law_sortings : Stmt := top 39
abbrev s__law_many : Stmt := top 40
abbrev s__law_below : Stmt := top 41
abbrev s__law_rising : Stmt := top 42
abbrev s__law_rises_right : Stmt := top 43
abbrev s__law_tableaus : Stmt := top 44
abbrev s__law_heaps : Stmt := top 45
abbrev s__law_together : Stmt := top 46
abbrev s__law_shapes : Stmt := top 47
abbrev s__law_fillings : Stmt := top 48
abbrev s__law_shapes_right : Stmt := top 49
abbrev s_law : Stmt := top 50
def d_is_whole : He.DefD := ⟨("is_whole", none), "is_whole", "is_whole", defArgs s_is_whole, defBody s_is_whole, defScope s_is_whole, [], []⟩
def d_is_form : He.DefD := ⟨("is_form", none), "is_form", "is_form", defArgs s_is_form, defBody s_is_form, defScope s_is_form, [], []⟩
def d_first_greater : He.DefD := ⟨("first_greater", none), "first_greater", "first_greater", defArgs s_first_greater, defBody s_first_greater, defScope s_first_greater, [], []⟩
def d_tableaus : He.DefD := ⟨("tableaus", none), "tableaus", "tableaus", defArgs s_tableaus, defBody s_tableaus, defScope s_tableaus, [], []⟩
def d_turning_back : He.DefD := ⟨("turning_back", none), "turning_back", "turning_back", defArgs s_turning_back, defBody s_turning_back, defScope s_turning_back, [], []⟩
def d_is_shape : He.DefD := ⟨("is_shape", none), "is_shape", "is_shape", defArgs s_is_shape, defBody s_is_shape, defScope s_is_shape, [], []⟩
def d_how_many_fillings : He.DefD := ⟨("how_many_fillings", none), "how_many_fillings", "how_many_fillings", defArgs s_how_many_fillings, defBody s_how_many_fillings, defScope s_how_many_fillings, [], []⟩
def d_shapes : He.DefD := ⟨("shapes", none), "shapes", "shapes", defArgs s_shapes, defBody s_shapes, defScope s_shapes, [], []⟩
def d_heaps : He.DefD := ⟨("heaps", none), "heaps", "heaps", defArgs s_heaps, defBody s_heaps, defScope s_heaps, [], []⟩
def d_greene : He.DefD := ⟨("greene", none), "greene", "greene", defArgs s_greene, defBody s_greene, defScope s_greene, [], []⟩
def d_inversions : He.DefD := ⟨("inversions", none), "inversions", "inversions", defArgs s_inversions, defBody s_inversions, defScope s_inversions, [], []⟩
def d_length : He.DefD := ⟨("length", none), "length", "length", defArgs s_length, defBody s_length, defScope s_length, [], []⟩
def d_descents : He.DefD := ⟨("descents", none), "descents", "descents", defArgs s_descents, defBody s_descents, defScope s_descents, [], []⟩
def d_code : He.DefD := ⟨("code", none), "code", "code", defArgs s_code, defBody s_code, defScope s_code, [], []⟩
def d_of_code : He.DefD := ⟨("of_code", none), "of_code", "of_code", defArgs s_of_code, defBody s_of_code, defScope s_of_code, [], []⟩
def d_exchanged : He.DefD := ⟨("exchanged", none), "exchanged", "exchanged", defArgs s_exchanged, defBody s_exchanged, defScope s_exchanged, [], []⟩
def d_sorting : He.DefD := ⟨("sorting", none), "sorting", "sorting", defArgs s_sorting, defBody s_sorting, defScope s_sorting, [], []⟩
def d_sorted_by : He.DefD := ⟨("sorted_by", none), "sorted_by", "sorted_by", defArgs s_sorted_by, defBody s_sorted_by, defScope s_sorted_by, [], []⟩
def d_how_many_sortings : He.DefD := ⟨("how_many_sortings", none), "how_many_sortings", "how_many_sortings", defArgs s_how_many_sortings, defBody s_how_many_sortings, defScope s_how_many_sortings, [], []⟩
def d_below : He.DefD := ⟨("below", none), "below", "below", defArgs s_below, defBody s_below, defScope s_below, [], []⟩
def d_first_rising : He.DefD := ⟨("first_rising", none), "first_rising", "first_rising", defArgs s_first_rising, defBody s_first_rising, defScope s_first_rising, [], []⟩
def d_rises : He.DefD := ⟨("rises", none), "rises", "rises", defArgs s_rises, defBody s_rises, defScope s_rises, [], []⟩
def d_is_row : He.DefD := ⟨("is_row", none), "is_row", "is_row", defArgs s_is_row, defBody s_is_row, defScope s_is_row, [], []⟩
def d_is_rises : He.DefD := ⟨("is_rises", none), "is_rises", "is_rises", defArgs s_is_rises, defBody s_is_rises, defScope s_is_rises, [], []⟩
def d__law_cell : He.DefD := ⟨("_law_cell", none), "_law_cell", "_law_cell", defArgs s__law_cell, defBody s__law_cell, defScope s__law_cell, [], []⟩
def d__law_digits : He.DefD := ⟨("_law_digits", none), "_law_digits", "_law_digits", defArgs s__law_digits, defBody s__law_digits, defScope s__law_digits, [], []⟩
def d__law_draw : He.DefD := ⟨("_law_draw", none), "_law_draw", "_law_draw", defArgs s__law_draw, defBody s__law_draw, defScope s__law_draw, [], []⟩
def d__law_pick : He.DefD := ⟨("_law_pick", none), "_law_pick", "_law_pick", defArgs s__law_pick, defBody s__law_pick, defScope s__law_pick, [], []⟩
def d__law_like : He.DefD := ⟨("_law_like", none), "_law_like", "_law_like", defArgs s__law_like, defBody s__law_like, defScope s__law_like, [], []⟩
def d__law_turning : He.DefD := ⟨("_law_turning", none), "_law_turning", "_law_turning", defArgs s__law_turning, defBody s__law_turning, defScope s__law_turning, [], []⟩
def d__law_back : He.DefD := ⟨("_law_back", none), "_law_back", "_law_back", defArgs s__law_back, defBody s__law_back, defScope s__law_back, [], []⟩
def d__law_all : He.DefD := ⟨("_law_all", none), "_law_all", "_law_all", defArgs s__law_all, defBody s__law_all, defScope s__law_all, [], []⟩
def d__law_inversions : He.DefD := ⟨("_law_inversions", none), "_law_inversions", "_law_inversions", defArgs s__law_inversions, defBody s__law_inversions, defScope s__law_inversions, [], []⟩
def d__law_exchanged : He.DefD := ⟨("_law_exchanged", none), "_law_exchanged", "_law_exchanged", defArgs s__law_exchanged, defBody s__law_exchanged, defScope s__law_exchanged, [], []⟩
def d__law_sortings : He.DefD := ⟨("_law_sortings", none), "_law_sortings", "_law_sortings", defArgs s__law_sortings, defBody s__law_sortings, defScope s__law_sortings, [], []⟩
def d__law_many : He.DefD := ⟨("_law_many", none), "_law_many", "_law_many", defArgs s__law_many, defBody s__law_many, defScope s__law_many, [], []⟩
def d__law_below : He.DefD := ⟨("_law_below", none), "_law_below", "_law_below", defArgs s__law_below, defBody s__law_below, defScope s__law_below, [], []⟩
def d__law_rising : He.DefD := ⟨("_law_rising", none), "_law_rising", "_law_rising", defArgs s__law_rising, defBody s__law_rising, defScope s__law_rising, [], []⟩
def d__law_rises_right : He.DefD := ⟨("_law_rises_right", none), "_law_rises_right", "_law_rises_right", defArgs s__law_rises_right, defBody s__law_rises_right, defScope s__law_rises_right, [], []⟩
def d__law_tableaus : He.DefD := ⟨("_law_tableaus", none), "_law_tableaus", "_law_tableaus", defArgs s__law_tableaus, defBody s__law_tableaus, defScope s__law_tableaus, [], []⟩
def d__law_heaps : He.DefD := ⟨("_law_heaps", none), "_law_heaps", "_law_heaps", defArgs s__law_heaps, defBody s__law_heaps, defScope s__law_heaps, [], []⟩
def d__law_together : He.DefD := ⟨("_law_together", none), "_law_together", "_law_together", defArgs s__law_together, defBody s__law_together, defScope s__law_together, [], []⟩
def d__law_shapes : He.DefD := ⟨("_law_shapes", none), "_law_shapes", "_law_shapes", defArgs s__law_shapes, defBody s__law_shapes, defScope s__law_shapes, [], []⟩
def d__law_fillings : He.DefD := ⟨("_law_fillings", none), "_law_fillings", "_law_fillings", defArgs s__law_fillings, defBody s__law_fillings, defScope s__law_fillings, [], []⟩
def d__law_shapes_right : He.DefD := ⟨("_law_shapes_right", none), "_law_shapes_right", "_law_shapes_right", defArgs s__law_shapes_right, defBody s__law_shapes_right, defScope s__law_shapes_right, [], []⟩
def d_law : He.DefD := ⟨("law", none), "law", "law", defArgs s_law, defBody s_law, defScope s_law, [], []⟩
def fn : List He.DefD := [d_is_whole, d_is_form, d_first_greater, d_tableaus, d_turning_back, d_is_shape, d_how_many_fillings, d_shapes, d_heaps, d_greene, d_inversions, d_length, d_descents, d_code, d_of_code, d_exchanged, d_sorting, d_sorted_by, d_how_many_sortings, d_below, d_first_rising, d_rises, d_is_row, d_is_rises, d__law_cell, d__law_digits, d__law_draw, d__law_pick, d__law_like, d__law_turning, d__law_back, d__law_all, d__law_inversions, d__law_exchanged, d__law_sortings, d__law_many, d__law_below, d__law_rising, d__law_rises_right, d__law_tableaus, d__law_heaps, d__law_together, d__law_shapes, d__law_fillings, d__law_shapes_right, d_law]
def fa : List He.Fa := [.glo "is_whole", .glo "is_form", .glo "first_greater", .glo "tableaus", .glo "turning_back", .glo "is_shape", .glo "how_many_fillings", .glo "shapes", .glo "heaps", .glo "greene", .glo "inversions", .glo "length", .glo "descents", .glo "code", .glo "of_code", .glo "exchanged", .glo "sorting", .glo "sorted_by", .glo "how_many_sortings", .glo "below", .glo "first_rising", .glo "rises", .glo "is_row", .glo "is_rises", .glo "_law_cell", .glo "_law_digits", .glo "_law_draw", .glo "_law_pick", .glo "_law_like", .glo "_law_turning", .glo "_law_back", .glo "_law_all", .glo "_law_inversions", .glo "_law_exchanged", .glo "_law_sortings", .glo "_law_many", .glo "_law_below", .glo "_law_rising", .glo "_law_rises_right", .glo "_law_tableaus", .glo "_law_heaps", .glo "_law_together", .glo "_law_shapes", .glo "_law_fillings", .glo "_law_shapes_right", .glo "law", .free "all", .free "bool", .free "enumerate", .free "int", .free "isinstance", .free "len", .free "list", .free "max", .free "min", .free "range", .free "reversed", .free "sorted", .free "str", .free "sum", .free "tuple", .free "zip", .free "set", .free "dict", .free "abs", .free "any", .free "ord"]
abbrev R : PySem.W.OpenRow := PySem.W.OpenLaw.row PySem.Challenge.rw_turnabout_k02_sorting_sorting
def ims : List (PySem.Str × String) := [("factorial", "math.factorial")]
abbrev hk : PySem.W.Hook := Ev.hookI 5 fa fn ims
def ob (s : PySem.W.SharedT) : Ev.AlI := Ev.obsI 5 fa fn ims (HandSHeadRun.getT s)
theorem ob_eq (s : PySem.W.SharedT) : ob s = hk.obs s.abs := Ev.obsI_eq (HandSHeadRun.getT_eq s)
def loose0 : List PySem.Str := ["factorial", "__name__", "is_whole", "is_form", "first_greater", "tableaus", "turning_back", "is_shape", "how_many_fillings", "shapes", "heaps", "greene", "inversions", "length", "descents", "code", "of_code", "exchanged", "sorting", "sorted_by", "how_many_sortings", "below", "first_rising", "rises", "is_row", "is_rises", "_law_cell", "_law_digits", "_law_draw", "_law_pick"]
def loose1 : List PySem.Str := ["_law_like", "_law_turning", "_law_back", "_law_all", "_law_inversions", "_law_exchanged", "_law_sortings", "_law_many", "_law_below", "_law_rising", "_law_rises_right", "_law_tableaus", "_law_heaps", "_law_together", "_law_shapes", "_law_fillings", "_law_shapes_right"]
def loose : List PySem.Str := loose0 ++ loose1
theorem run (w : World) : HandSHeadRun.RunEqI R (PySem.W.view R.prog [0, 50]) hk ob 20000 loose w := by
  unfold HandSHeadRun.RunEqI
  kernel_rfl
end Hd
namespace Lw
open PySem PySem.Spec L2 Ev
def b_is_whole : Ev.S := (.seq (.ret (.and (.isi .int (.var 0)) (.and (.not (.isi .bool (.var 0))) (.cmp2 .le .le (.var 1) (.var 0) (.var 2))))) .skip)
def f_is_whole : Ev.Fn := ⟨3, 3, b_is_whole⟩
def b_is_form : Ev.S := (.seq (.ret (.and (.isi .tuple (.var 0)) (.and (.cmp .eq (.blt .len (.cons (.var 0) .nil)) (.var 2)) (.and (.isi .str (.idx (.var 0) (.cst (.int 0)))) (.cmp .eq (.idx (.var 0) (.cst (.int 0))) (.var 1)))))) .skip)
def f_is_form : Ev.Fn := ⟨3, 3, b_is_form⟩
def b_first_greater : Ev.S := (.seq (.par 2 3 (.cst (.int 0)) (.blt .len (.cons (.var 0) .nil))) (.seq (.whl (.val (.cmp .lt (.var 2) (.var 3))) (.seq (.asg (.nm 4) (.bin .fdiv (.bin .add (.var 2) (.var 3)) (.cst (.int 2)))) (.seq (.ife (.val (.cmp .gt (.idx (.var 0) (.var 4)) (.var 1))) (.seq (.asg (.nm 3) (.var 4)) .skip) (.seq (.asg (.nm 2) (.bin .add (.var 4) (.cst (.int 1)))) .skip)) .skip))) (.seq (.ret (.var 2)) .skip)))
def f_first_greater : Ev.Fn := ⟨2, 5, b_first_greater⟩
def b_tableaus : Ev.S := (.seq (.par 1 2 (.lst .nil) (.lst .nil)) (.seq (.fr (.cons (.nm 3) (.cons (.nm 4) .nil)) (.blt .enumerate (.cons (.var 0) .nil)) (.seq (.asg (.nm 5) (.cst (.int 0))) (.seq (.asg (.nm 6) (.cst (.bl true))) (.seq (.whl (.val (.var 6)) (.seq (.ife (.val (.cmp .eq (.var 5) (.blt .len (.cons (.var 1) .nil)))) (.seq (.exp (.mth .append (.var 1) (.cons (.lst .nil) .nil))) (.seq (.exp (.mth .append (.var 2) (.cons (.lst .nil) .nil))) .skip)) .skip) (.seq (.asg (.nm 7) (.idx (.var 1) (.var 5))) (.seq (.asg (.nm 8) (.call 2 (.cons (.var 7) (.cons (.var 4) .nil)))) (.seq (.ife (.val (.cmp .eq (.var 8) (.blt .len (.cons (.var 7) .nil)))) (.seq (.exp (.mth .append (.var 7) (.cons (.var 4) .nil))) (.seq (.exp (.mth .append (.idx (.var 2) (.var 5)) (.cons (.var 3) .nil))) (.seq (.asg (.nm 6) (.cst (.bl false))) .skip))) (.seq (.mul (.sub (.var 7) (.var 8)) (.nm 4) (.var 4) (.idx (.var 7) (.var 8))) (.seq (.aug 5 .add (.cst (.int 1))) .skip))) .skip))))) .skip)))) (.seq (.ret (.tup (.cons (.blt .tuple (.cons (.lc [7] (.nm 7) (.val (.var 1)) .none (.blt .tuple (.cons (.var 7) .nil))) .nil)) (.cons (.blt .tuple (.cons (.lc [7] (.nm 7) (.val (.var 2)) .none (.blt .tuple (.cons (.var 7) .nil))) .nil)) .nil)))) .skip)))
def f_tableaus : Ev.Fn := ⟨1, 9, b_tableaus⟩
def b_turning_back : Ev.S := (.seq (.asg (.nm 2) (.lc [8] (.nm 8) (.val (.var 0)) .none (.blt .list (.cons (.var 8) .nil)))) (.seq (.asg (.nm 3) (.lc [8] (.nm 8) (.val (.var 1)) .none (.blt .list (.cons (.var 8) .nil)))) (.seq (.asg (.nm 4) (.lst .nil)) (.seq (.fr (.nm 5) (.blt .reversed (.cons (.blt .range (.cons (.blt .sum (.cons (.lc [8] (.nm 8) (.val (.var 1)) .none (.blt .len (.cons (.var 8) .nil))) .nil)) .nil)) .nil)) (.seq (.asg (.nm 6) (.idx (.lc [10, 8] (.cons (.nm 10) (.cons (.nm 8) .nil)) (.blt .enumerate (.cons (.var 3) .nil)) (.and (.val (.var 8)) (.val (.cmp .eq (.idx (.var 8) (.neg (.cst (.int 1)))) (.var 5)))) (.var 10)) (.cst (.int 0)))) (.seq (.exp (.mth .pop (.idx (.var 3) (.var 6)) .nil)) (.seq (.asg (.nm 7) (.mth .pop (.idx (.var 2) (.var 6)) .nil)) (.seq (.fr (.nm 8) (.val (.rev (.slc (.var 2) .none (.var 6)))) (.seq (.asg (.nm 9) (.bin .sub (.call 2 (.cons (.var 8) (.cons (.var 7) .nil))) (.cst (.int 1)))) (.seq (.mul (.sub (.var 8) (.var 9)) (.nm 7) (.var 7) (.idx (.var 8) (.var 9))) .skip))) (.seq (.exp (.mth .append (.var 4) (.cons (.var 7) .nil))) .skip)))))) (.seq (.ret (.blt .tuple (.cons (.rev (.var 4)) .nil))) .skip)))))
def f_turning_back : Ev.Fn := ⟨2, 11, b_turning_back⟩
def b_is_shape : Ev.S := (.seq (.ife (.or (.not (.val (.isi .tuple (.var 0)))) (.not (.val (.blt .all (.cons (.lc [1] (.nm 1) (.val (.var 0)) .none (.call 0 (.cons (.var 1) (.cons (.cst (.int 1)) (.cons (.cst (.int 24)) .nil))))) .nil))))) (.seq (.ret (.cst (.bl false))) .skip) .skip) (.seq (.ret (.and (.blt .all (.cons (.lc [2, 3] (.cons (.nm 2) (.cons (.nm 3) .nil)) (.blt .zip (.cons (.var 0) (.cons (.slc (.var 0) (.cst (.int 1)) .none) .nil))) .none (.cmp .ge (.var 2) (.var 3))) .nil)) (.cmp2 .le .le (.cst (.int 1)) (.blt .sum (.cons (.var 0) .nil)) (.cst (.int 24))))) .skip))
def f_is_shape : Ev.Fn := ⟨1, 4, b_is_shape⟩
def b_how_many_fillings : Ev.S := (.seq (.asg (.nm 1) (.cst (.int 1))) (.seq (.fr (.cons (.nm 2) (.cons (.nm 3) .nil)) (.blt .enumerate (.cons (.var 0) .nil)) (.seq (.fr (.nm 4) (.blt .range (.cons (.var 3) .nil)) (.seq (.asg (.nm 5) (.blt .len (.cons (.lc [6] (.nm 6) (.val (.slc (.var 0) (.bin .add (.var 2) (.cst (.int 1))) .none)) (.val (.cmp .gt (.var 6) (.var 4))) (.var 6)) .nil))) (.seq (.aug 1 .mul (.bin .add (.bin .sub (.var 3) (.var 4)) (.var 5))) .skip))) .skip)) (.seq (.ret (.bin .fdiv (.blt .factorial (.cons (.blt .sum (.cons (.var 0) .nil)) .nil)) (.var 1))) .skip)))
def f_how_many_fillings : Ev.Fn := ⟨1, 7, b_how_many_fillings⟩
def b_shapes : Ev.S := (.seq (.asg (.nm 1) (.lst (.cons (.tup (.cons (.tup .nil) (.cons (.var 0) .nil))) .nil))) (.seq (.asg (.nm 2) (.lst .nil)) (.seq (.whl (.val (.var 1)) (.seq (.asg (.nm 3) (.lst .nil)) (.seq (.fr (.cons (.nm 4) (.cons (.nm 5) .nil)) (.val (.var 1)) (.seq (.ife (.val (.cmp .eq (.var 5) (.cst (.int 0)))) (.seq (.exp (.mth .append (.var 2) (.cons (.var 4) .nil))) .skip) .skip) (.seq (.asg (.nm 6) (.ifx (.val (.var 4)) (.blt .min (.cons (.var 5) (.cons (.idx (.var 4) (.neg (.cst (.int 1)))) .nil))) (.var 5))) (.seq (.exp (.mth .extend (.var 3) (.cons (.lc [7] (.nm 7) (.blt .range (.cons (.cst (.int 1)) (.cons (.bin .add (.var 6) (.cst (.int 1))) .nil))) .none (.tup (.cons (.bin .add (.var 4) (.tup (.cons (.var 7) .nil))) (.cons (.bin .sub (.var 5) (.var 7)) .nil)))) .nil))) .skip)))) (.seq (.asg (.nm 1) (.var 3)) .skip)))) (.seq (.ret (.blt .tuple (.cons (.blt .sorted (.cons (.var 2) .nil)) .nil))) .skip))))
def f_shapes : Ev.Fn := ⟨1, 8, b_shapes⟩
def b_heaps : Ev.S := (.seq (.asg (.nm 1) (.lst .nil)) (.seq (.fr (.nm 2) (.val (.var 0)) (.seq (.asg (.nm 3) (.lc [4] (.nm 4) (.val (.var 1)) (.val (.cmp .gt (.idx (.var 4) (.neg (.cst (.int 1)))) (.var 2))) (.var 4))) (.seq (.ife (.val (.var 3)) (.seq (.exp (.mth .append (.idx (.var 3) (.cst (.int 0))) (.cons (.var 2) .nil))) .skip) (.seq (.exp (.mth .append (.var 1) (.cons (.lst (.cons (.var 2) .nil)) .nil))) .skip)) .skip))) (.seq (.ret (.blt .tuple (.cons (.lc [4] (.nm 4) (.val (.var 1)) .none (.blt .tuple (.cons (.var 4) .nil))) .nil))) .skip)))
def f_heaps : Ev.Fn := ⟨1, 5, b_heaps⟩
def b_greene : Ev.S := (.seq (.asg (.nm 1) (.lst .nil)) (.seq (.asg (.nm 2) (.cst (.int 0))) (.seq (.fr (.nm 3) (.val (.idx (.call 3 (.cons (.var 0) .nil)) (.cst (.int 0)))) (.seq (.aug 2 .add (.blt .len (.cons (.var 3) .nil))) (.seq (.exp (.mth .append (.var 1) (.cons (.var 2) .nil))) .skip))) (.seq (.ret (.blt .tuple (.cons (.var 1) .nil))) .skip))))
def f_greene : Ev.Fn := ⟨1, 4, b_greene⟩
def b_inversions : Ev.S := (.seq (.asg (.nm 1) (.blt .len (.cons (.var 0) .nil))) (.seq (.ret (.blt .tuple (.cons (.lc2 [2, 3] (.nm 2) (.blt .range (.cons (.var 1) .nil)) (.nm 3) (.blt .range (.cons (.bin .add (.var 2) (.cst (.int 1))) (.cons (.var 1) .nil))) (.val (.cmp .gt (.idx (.var 0) (.var 2)) (.idx (.var 0) (.var 3)))) (.tup (.cons (.var 2) (.cons (.var 3) .nil)))) .nil))) .skip))
def f_inversions : Ev.Fn := ⟨1, 4, b_inversions⟩
def b_length : Ev.S := (.seq (.ret (.blt .sum (.cons (.call 13 (.cons (.var 0) .nil)) .nil))) .skip)
def f_length : Ev.Fn := ⟨1, 1, b_length⟩
def b_descents : Ev.S := (.seq (.ret (.blt .tuple (.cons (.lc [1] (.nm 1) (.blt .range (.cons (.bin .sub (.blt .len (.cons (.var 0) .nil)) (.cst (.int 1))) .nil)) (.val (.cmp .gt (.idx (.var 0) (.var 1)) (.idx (.var 0) (.bin .add (.var 1) (.cst (.int 1)))))) (.var 1)) .nil))) .skip)
def f_descents : Ev.Fn := ⟨1, 2, b_descents⟩
def b_code : Ev.S := (.seq (.ret (.blt .tuple (.cons (.lc [1, 2] (.cons (.nm 1) (.cons (.nm 2) .nil)) (.blt .enumerate (.cons (.var 0) .nil)) .none (.blt .len (.cons (.lc [3] (.nm 3) (.val (.slc (.var 0) (.bin .add (.var 1) (.cst (.int 1))) .none)) (.val (.cmp .lt (.var 3) (.var 2))) (.var 3)) .nil))) .nil))) .skip)
def f_code : Ev.Fn := ⟨1, 4, b_code⟩
def b_of_code : Ev.S := (.seq (.asg (.nm 1) (.blt .list (.cons (.blt .range (.cons (.blt .len (.cons (.var 0) .nil)) .nil)) .nil))) (.seq (.ret (.blt .tuple (.cons (.lc [2] (.nm 2) (.val (.var 0)) .none (.mth .pop (.var 1) (.cons (.var 2) .nil))) .nil))) .skip))
def f_of_code : Ev.Fn := ⟨1, 3, b_of_code⟩
def b_exchanged : Ev.S := (.seq (.ret (.bin .add (.bin .add (.slc (.var 0) .none (.var 1)) (.tup (.cons (.idx (.var 0) (.bin .add (.var 1) (.cst (.int 1)))) (.cons (.idx (.var 0) (.var 1)) .nil)))) (.slc (.var 0) (.bin .add (.var 1) (.cst (.int 2))) .none))) .skip)
def f_exchanged : Ev.Fn := ⟨2, 2, b_exchanged⟩
def b_sorting : Ev.S := (.seq (.asg (.nm 1) (.lst .nil)) (.seq (.asg (.nm 2) (.call 12 (.cons (.var 0) .nil))) (.seq (.whl (.val (.var 2)) (.seq (.exp (.mth .append (.var 1) (.cons (.idx (.var 2) (.cst (.int 0))) .nil))) (.seq (.asg (.nm 0) (.call 15 (.cons (.var 0) (.cons (.idx (.var 2) (.cst (.int 0))) .nil)))) (.seq (.asg (.nm 2) (.call 12 (.cons (.var 0) .nil))) .skip)))) (.seq (.ret (.blt .tuple (.cons (.var 1) .nil))) .skip))))
def f_sorting : Ev.Fn := ⟨1, 3, b_sorting⟩
def b_sorted_by : Ev.S := (.seq (.fr (.nm 2) (.val (.var 1)) (.seq (.asg (.nm 0) (.call 15 (.cons (.var 0) (.cons (.var 2) .nil)))) .skip)) (.seq (.ret (.var 0)) .skip))
def f_sorted_by : Ev.Fn := ⟨2, 3, b_sorted_by⟩
def b_how_many_sortings : Ev.S := (.seq (.ife (.val (.cmp .gt (.blt .len (.cons (.var 0) .nil)) (.cst (.int 9)))) (.seq (.ret (.cst .non)) .skip) .skip) (.seq (.asg (.nm 1) (.dc1 true (.var 0) (.cst (.int 1)))) (.seq (.fr (.nm 2) (.blt .range (.cons (.call 11 (.cons (.var 0) .nil)) .nil)) (.seq (.asg (.nm 3) (.dic true)) (.seq (.fr (.cons (.nm 4) (.cons (.nm 5) .nil)) (.mth .items (.var 1) .nil) (.seq (.fr (.nm 6) (.val (.call 12 (.cons (.var 4) .nil))) (.seq (.asg (.nm 7) (.call 15 (.cons (.var 4) (.cons (.var 6) .nil)))) (.seq (.sto (.var 3) (.var 7) (.bin .add (.mth .get (.var 3) (.cons (.var 7) (.cons (.cst (.int 0)) .nil))) (.var 5))) .skip))) .skip)) (.seq (.asg (.nm 1) (.var 3)) .skip)))) (.seq (.ret (.blt .sum (.cons (.vws (.var 1)) .nil))) .skip))))
def f_how_many_sortings : Ev.Fn := ⟨1, 8, b_how_many_sortings⟩
def b_below : Ev.S := (.seq (.asg (.nm 2) (.blt .len (.cons (.var 0) .nil))) (.seq (.par 3 4 (.bin .mul (.lst (.cons (.cst (.int 0)) .nil)) (.var 2)) (.bin .mul (.lst (.cons (.cst (.int 0)) .nil)) (.var 2))) (.seq (.fr (.nm 5) (.blt .range (.cons (.var 2) .nil)) (.seq (.asg (.nm 3) (.lc [6, 7] (.cons (.nm 6) (.cons (.nm 7) .nil)) (.blt .enumerate (.cons (.var 3) .nil)) .none (.bin .add (.var 7) (.blt .int (.cons (.cmp .ge (.idx (.var 0) (.var 5)) (.var 6)) .nil))))) (.seq (.asg (.nm 4) (.lc [6, 7] (.cons (.nm 6) (.cons (.nm 7) .nil)) (.blt .enumerate (.cons (.var 4) .nil)) .none (.bin .add (.var 7) (.blt .int (.cons (.cmp .ge (.idx (.var 1) (.var 5)) (.var 6)) .nil))))) (.seq (.fr (.nm 6) (.blt .range (.cons (.var 2) .nil)) (.seq (.ife (.val (.cmp .lt (.idx (.var 4) (.var 6)) (.idx (.var 3) (.var 6)))) (.seq (.ret (.tup (.cons (.var 5) (.cons (.var 6) .nil)))) .skip) .skip) .skip)) .skip)))) (.seq (.ret (.cst .non)) .skip))))
def f_below : Ev.Fn := ⟨2, 8, b_below⟩
def b_first_rising : Ev.S := (.seq (.asg (.nm 1) (.blt .len (.cons (.var 0) .nil))) (.seq (.asg (.nm 2) (.bin .mul (.lst (.cons (.cst (.int 1)) .nil)) (.var 1))) (.seq (.fr (.nm 3) (.blt .reversed (.cons (.blt .range (.cons (.var 1) .nil)) .nil)) (.seq (.asg (.nm 4) (.lc [10] (.nm 10) (.blt .range (.cons (.bin .add (.var 3) (.cst (.int 1))) (.cons (.var 1) .nil))) (.val (.cmp .gt (.idx (.var 0) (.var 10)) (.idx (.var 0) (.var 3)))) (.idx (.var 2) (.var 10)))) (.seq (.sto (.var 2) (.var 3) (.bin .add (.cst (.int 1)) (.mxd .max (.var 4) (.cst (.int 0))))) .skip))) (.seq (.asg (.nm 5) (.lst .nil)) (.seq (.asg (.nm 6) (.neg (.cst (.int 1)))) (.seq (.fr (.nm 7) (.blt .range (.cons (.blt .max (.cons (.var 2) .nil)) (.cons (.cst (.int 0)) (.cons (.neg (.cst (.int 1))) .nil)))) (.seq (.asg (.nm 8) (.ifx (.val (.var 5)) (.idx (.var 5) (.neg (.cst (.int 1)))) (.neg (.cst (.int 1))))) (.seq (.asg (.nm 9) (.blt .min (.cons (.lc [10] (.nm 10) (.blt .range (.cons (.bin .add (.var 6) (.cst (.int 1))) (.cons (.var 1) .nil))) (.and (.val (.cmp .eq (.idx (.var 2) (.var 10)) (.var 7))) (.val (.cmp .gt (.idx (.var 0) (.var 10)) (.var 8)))) (.idx (.var 0) (.var 10))) .nil))) (.seq (.exp (.mth .append (.var 5) (.cons (.var 9) .nil))) (.seq (.asg (.nm 6) (.mth .index (.var 0) (.cons (.var 9) .nil))) .skip))))) (.seq (.ret (.blt .tuple (.cons (.var 5) .nil))) .skip)))))))
def f_first_rising : Ev.Fn := ⟨1, 11, b_first_rising⟩
def b_rises : Ev.S := (.seq (.ret (.tup (.cons (.cst (.str ⟨#[114, 105, 115, 101, 115]⟩)) (.cons (.call 20 (.cons (.var 0) .nil)) (.cons (.blt .tuple (.cons (.blt .sorted (.cons (.call 8 (.cons (.var 0) .nil)) .nil)) .nil)) .nil))))) .skip)
def f_rises : Ev.Fn := ⟨1, 1, b_rises⟩
def b_is_row : Ev.S := (.seq (.ife (.or (.not (.val (.isi .tuple (.var 0)))) (.not (.val (.blt .all (.cons (.lc [4] (.nm 4) (.val (.var 0)) .none (.call 0 (.cons (.var 4) (.cons (.cst (.int 0)) (.cons (.bin .sub (.blt .len (.cons (.var 1) .nil)) (.cst (.int 1))) .nil))))) .nil))))) (.seq (.ret (.cst (.bl false))) .skip) .skip) (.seq (.asg (.nm 3) (.lc [4] (.nm 4) (.val (.var 0)) .none (.mth .index (.var 1) (.cons (.var 4) .nil)))) (.seq (.ife (.not (.val (.blt .all (.cons (.lc [5, 6] (.cons (.nm 5) (.cons (.nm 6) .nil)) (.blt .zip (.cons (.var 3) (.cons (.slc (.var 3) (.cst (.int 1)) .none) .nil))) .none (.cmp .lt (.var 5) (.var 6))) .nil)))) (.seq (.ret (.cst (.bl false))) .skip) .skip) (.seq (.ret (.blt .all (.cons (.lc [5, 6] (.cons (.nm 5) (.cons (.nm 6) .nil)) (.blt .zip (.cons (.var 0) (.cons (.slc (.var 0) (.cst (.int 1)) .none) .nil))) .none (.cmp .lt (.bin .mul (.var 2) (.var 5)) (.bin .mul (.var 2) (.var 6)))) .nil))) .skip))))
def f_is_row : Ev.Fn := ⟨3, 7, b_is_row⟩
def b_is_rises : Ev.S := (.seq (.ife (.or (.not (.val (.call 1 (.cons (.var 0) (.cons (.cst (.str ⟨#[114, 105, 115, 101, 115]⟩)) (.cons (.cst (.int 3)) .nil)))))) (.or (.not (.val (.call 22 (.cons (.idx (.var 0) (.cst (.int 1))) (.cons (.var 1) (.cons (.cst (.int 1)) .nil)))))) (.not (.val (.isi .tuple (.idx (.var 0) (.cst (.int 2)))))))) (.seq (.ret (.cst (.bl false))) .skip) .skip) (.seq (.asg (.nm 2) (.idx (.var 0) (.cst (.int 2)))) (.seq (.ife (.or (.val (.cmp .ne (.blt .len (.cons (.var 2) .nil)) (.blt .len (.cons (.idx (.var 0) (.cst (.int 1))) .nil)))) (.not (.val (.blt .all (.cons (.lc [4] (.nm 4) (.val (.var 2)) .none (.and (.call 22 (.cons (.var 4) (.cons (.var 1) (.cons (.neg (.cst (.int 1))) .nil)))) (.cmp .ne (.var 4) (.tup .nil)))) .nil))))) (.seq (.ret (.cst (.bl false))) .skip) .skip) (.seq (.asg (.nm 3) (.lc [4] (.nm 4) (.val (.var 2)) .none (.idx (.var 4) (.cst (.int 0))))) (.seq (.ife (.val (.cmp .ne (.var 3) (.blt .sorted (.cons (.var 3) .nil)))) (.seq (.ret (.cst (.bl false))) .skip) .skip) (.seq (.ret (.cmp .eq (.blt .sorted (.cons (.lc2 [4, 5] (.nm 4) (.val (.var 2)) (.nm 5) (.val (.var 4)) .none (.var 5)) .nil)) (.blt .list (.cons (.blt .range (.cons (.blt .len (.cons (.var 1) .nil)) .nil)) .nil)))) .skip))))))
def f_is_rises : Ev.Fn := ⟨2, 6, b_is_rises⟩
def b__law_cell : Ev.S := (.seq (.ife (.val (.cmp .lt (.var 1) (.blt .len (.cons (.var 0) .nil)))) (.seq (.ret (.idx (.var 0) (.var 1))) .skip) .skip) (.seq (.ret (.cst (.int 0))) .skip))
def f__law_cell : Ev.Fn := ⟨2, 2, b__law_cell⟩
def b__law_digits : Ev.S := (.seq (.asg (.nm 3) (.lst .nil)) (.seq (.fr (.nm 4) (.blt .range (.cons (.var 1) (.cons (.var 2) .nil))) (.seq (.asg (.nm 5) (.call 24 (.cons (.var 0) (.cons (.var 4) .nil)))) (.seq (.ife (.val (.cmp .lt (.var 5) (.cst (.int 0)))) (.seq (.asg (.nm 5) (.bin .sub (.cst (.int 1)) (.bin .mul (.cst (.int 2)) (.var 5)))) .skip) .skip) (.seq (.ife (.val (.cmp .gt (.blt .len (.cons (.var 3) .nil)) (.cst (.int 1500)))) (.seq .brk .skip) .skip) (.seq (.ife (.val (.cmp .ge (.var 5) (.bin .pow (.cst (.int 10)) (.cst (.int 18))))) (.seq (.fr (.nm 6) (.blt .range (.cons (.cst (.int 60)) .nil)) (.seq (.ife (.val (.cmp .gt (.var 5) (.cst (.int 0)))) (.seq (.exp (.mth .append (.var 3) (.cons (.bin .mod (.blt .int (.cons (.var 5) .nil)) (.cst (.int 1000))) .nil))) (.seq (.asg (.nm 5) (.bin .fdiv (.var 5) (.cst (.int 1000)))) .skip)) .skip) .skip)) .skip) (.seq (.asg (.nm 7) (.bin .mod (.blt .int (.cons (.bin .add (.bin .add (.bin .mul (.var 5) (.cst (.int 48271))) (.bin .mul (.var 4) (.cst (.int 69621)))) (.cst (.int 11))) .nil)) (.cst (.int 2147483647)))) (.seq (.fr (.nm 6) (.blt .range (.cons (.cst (.int 12)) .nil)) (.seq (.asg (.nm 7) (.bin .mod (.blt .int (.cons (.bin .add (.bin .add (.bin .mul (.var 7) (.cst (.int 16807))) (.bin .mul (.cst (.int 7)) (.var 6))) (.cst (.int 1))) .nil)) (.cst (.int 2147483647)))) (.seq (.exp (.mth .append (.var 3) (.cons (.bin .mod (.blt .int (.cons (.bin .fdiv (.var 7) (.cst (.int 997))) .nil)) (.cst (.int 1000))) .nil))) .skip))) .skip))) .skip))))) (.seq (.ret (.var 3)) .skip)))
def f__law_digits : Ev.Fn := ⟨3, 8, b__law_digits⟩
def b__law_draw : Ev.S := (.seq (.asg (.nm 2) (.idx (.var 0) (.cst (.int 1)))) (.seq (.sto (.var 0) (.cst (.int 1)) (.bin .add (.var 2) (.cst (.int 1)))) (.seq (.ife (.val (.cmp .lt (.var 2) (.blt .len (.cons (.idx (.var 0) (.cst (.int 0))) .nil)))) (.seq (.ret (.bin .mod (.blt .int (.cons (.idx (.idx (.var 0) (.cst (.int 0))) (.var 2)) .nil)) (.var 1))) .skip) .skip) (.seq (.ret (.bin .mod (.blt .int (.cons (.bin .mul (.var 2) (.cst (.int 7))) .nil)) (.var 1))) .skip))))
def f__law_draw : Ev.Fn := ⟨2, 3, b__law_draw⟩
def b__law_pick : Ev.S := (.seq (.ret (.idx (.var 1) (.bin .mod (.blt .int (.cons (.call 26 (.cons (.var 0) (.cons (.cst (.int 900)) .nil))) .nil)) (.blt .len (.cons (.var 1) .nil))))) .skip)
def f__law_pick : Ev.Fn := ⟨2, 2, b__law_pick⟩
def b__law_like : Ev.S := (.seq (.ife (.val (.isi .tuple (.var 1))) (.seq (.ife (.or (.not (.val (.isi .tuple (.var 0)))) (.val (.cmp .ne (.blt .len (.cons (.var 0) .nil)) (.blt .len (.cons (.var 1) .nil))))) (.seq (.ret (.cst (.bl false))) .skip) .skip) (.seq (.ret (.cmp .eq (.lc [2] (.nm 2) (.blt .range (.cons (.blt .len (.cons (.var 1) .nil)) .nil)) (.not (.val (.call 28 (.cons (.idx (.var 0) (.var 2)) (.cons (.idx (.var 1) (.var 2)) .nil))))) (.cst (.int 1))) (.lst .nil))) .skip)) .skip) (.seq (.ife (.val (.cmp .is_ (.var 1) (.cst .non))) (.seq (.ret (.cmp .is_ (.var 0) (.cst .non))) .skip) .skip) (.seq (.ife (.val (.cmp .is_ (.var 1) (.cst (.bl true)))) (.seq (.ret (.cmp .is_ (.var 0) (.cst (.bl true)))) .skip) .skip) (.seq (.ife (.val (.cmp .is_ (.var 1) (.cst (.bl false)))) (.seq (.ret (.cmp .is_ (.var 0) (.cst (.bl false)))) .skip) .skip) (.seq (.ife (.val (.isi .str (.var 1))) (.seq (.ret (.and (.isi .str (.var 0)) (.cmp .eq (.mth .join (.cst (.str ⟨#[]⟩)) (.cons (.lst (.cons (.var 0) .nil)) .nil)) (.var 1)))) .skip) .skip) (.seq (.ret (.and (.isi .int (.var 0)) (.and (.not (.isi .bool (.var 0))) (.cmp .eq (.var 0) (.var 1))))) .skip))))))
def f__law_like : Ev.Fn := ⟨2, 3, b__law_like⟩
def b__law_turning : Ev.S := (.seq (.par 2 3 (.blt .list (.cons (.blt .range (.cons (.var 1) .nil)) .nil)) (.lst .nil)) (.seq (.fr (.nm 4) (.blt .range (.cons (.var 1) .nil)) (.seq (.asg (.nm 5) (.call 26 (.cons (.var 0) (.cons (.blt .len (.cons (.var 2) .nil)) .nil)))) (.seq (.exp (.mth .append (.var 3) (.cons (.idx (.var 2) (.var 5)) .nil))) (.seq (.asg (.nm 2) (.bin .add (.slc (.var 2) .none (.var 5)) (.slc (.var 2) (.bin .add (.var 5) (.cst (.int 1))) .none))) .skip)))) (.seq (.ret (.blt .tuple (.cons (.var 3) .nil))) .skip)))
def f__law_turning : Ev.Fn := ⟨2, 6, b__law_turning⟩
def b__law_back : Ev.S := (.seq (.asg (.nm 1) (.bin .mul (.lst (.cons (.cst (.int 0)) .nil)) (.blt .len (.cons (.var 0) .nil)))) (.seq (.fr (.nm 2) (.blt .range (.cons (.blt .len (.cons (.var 0) .nil)) .nil)) (.seq (.sto (.var 1) (.idx (.var 0) (.var 2)) (.var 2)) .skip)) (.seq (.ret (.blt .tuple (.cons (.var 1) .nil))) .skip)))
def f__law_back : Ev.Fn := ⟨1, 3, b__law_back⟩
def b__law_all : Ev.S := (.seq (.asg (.nm 1) (.lst (.cons (.tup .nil) .nil))) (.seq (.fr (.nm 2) (.blt .range (.cons (.var 0) .nil)) (.seq (.asg (.nm 3) (.lst .nil)) (.seq (.fr (.nm 4) (.val (.var 1)) (.seq (.asg (.nm 3) (.bin .add (.var 3) (.lc [5] (.nm 5) (.blt .range (.cons (.var 0) .nil)) (.val (.cmp .notin (.var 5) (.var 4))) (.bin .add (.var 4) (.tup (.cons (.var 5) .nil)))))) .skip)) (.seq (.asg (.nm 1) (.var 3)) .skip)))) (.seq (.ret (.var 1)) .skip)))
def f__law_all : Ev.Fn := ⟨1, 6, b__law_all⟩
def b__law_inversions : Ev.S := (.seq (.asg (.nm 1) (.lst .nil)) (.seq (.fr (.nm 2) (.blt .range (.cons (.blt .len (.cons (.var 0) .nil)) .nil)) (.seq (.asg (.nm 1) (.bin .add (.var 1) (.lc [3] (.nm 3) (.blt .range (.cons (.bin .add (.var 2) (.cst (.int 1))) (.cons (.blt .len (.cons (.var 0) .nil)) .nil))) (.val (.cmp .gt (.idx (.var 0) (.var 2)) (.idx (.var 0) (.var 3)))) (.tup (.cons (.var 2) (.cons (.var 3) .nil)))))) .skip)) (.seq (.ret (.var 1)) .skip)))
def f__law_inversions : Ev.Fn := ⟨1, 4, b__law_inversions⟩
def b__law_exchanged : Ev.S := (.seq (.ret (.bin .add (.bin .add (.slc (.var 0) .none (.var 1)) (.tup (.cons (.idx (.var 0) (.bin .add (.var 1) (.cst (.int 1)))) (.cons (.idx (.var 0) (.var 1)) .nil)))) (.slc (.var 0) (.bin .add (.var 1) (.cst (.int 2))) .none))) .skip)
def f__law_exchanged : Ev.Fn := ⟨2, 2, b__law_exchanged⟩
def b__law_sortings : Ev.S := (.seq (.asg (.nm 1) (.dic true)) (.seq (.fr (.cons (.nm 2) (.cons (.nm 3) .nil)) (.val (.blt .sorted (.cons (.lc [9] (.nm 9) (.val (.call 31 (.cons (.var 0) .nil))) .none (.tup (.cons (.call 35 (.cons (.var 9) .nil)) (.cons (.var 9) .nil)))) .nil))) (.seq (.mul (.nm 4) (.nm 5) (.tup .nil) (.cst (.int 0))) (.seq (.fr (.nm 6) (.blt .range (.cons (.bin .sub (.var 0) (.cst (.int 1))) .nil)) (.seq (.ife (.val (.cmp .gt (.idx (.var 3) (.var 6)) (.idx (.var 3) (.bin .add (.var 6) (.cst (.int 1)))))) (.seq (.asg (.cons (.nm 7) (.cons (.nm 8) .nil)) (.idx (.var 1) (.call 33 (.cons (.var 3) (.cons (.var 6) .nil))))) (.seq (.asg (.nm 4) (.ifx (.val (.cmp .eq (.var 5) (.cst (.int 0)))) (.bin .add (.tup (.cons (.var 6) .nil)) (.var 7)) (.var 4))) (.seq (.asg (.nm 5) (.bin .add (.var 5) (.var 8))) .skip))) .skip) .skip)) (.seq (.sto (.var 1) (.var 3) (.tup (.cons (.var 4) (.cons (.blt .max (.cons (.cst (.int 1)) (.cons (.var 5) .nil))) .nil)))) .skip)))) (.seq (.ret (.var 1)) .skip)))
def f__law_sortings : Ev.Fn := ⟨1, 10, b__law_sortings⟩
def b__law_many : Ev.S := (.seq (.ret (.blt .len (.cons (.call 32 (.cons (.var 0) .nil)) .nil))) .skip)
def f__law_many : Ev.Fn := ⟨1, 1, b__law_many⟩
def b__law_below : Ev.S := (.seq (.asg (.nm 2) (.blt .len (.cons (.var 0) .nil))) (.seq (.fr (.nm 3) (.blt .range (.cons (.var 2) .nil)) (.seq (.fr (.nm 4) (.blt .range (.cons (.var 2) .nil)) (.seq (.ife (.val (.cmp .lt (.blt .len (.cons (.lc [5] (.nm 5) (.val (.slc (.var 1) .none (.bin .add (.var 3) (.cst (.int 1))))) (.val (.cmp .ge (.var 5) (.var 4))) (.cst (.int 1))) .nil)) (.blt .len (.cons (.lc [5] (.nm 5) (.val (.slc (.var 0) .none (.bin .add (.var 3) (.cst (.int 1))))) (.val (.cmp .ge (.var 5) (.var 4))) (.cst (.int 1))) .nil)))) (.seq (.ret (.tup (.cons (.var 3) (.cons (.var 4) .nil)))) .skip) .skip) .skip)) .skip)) (.seq (.ret (.cst .non)) .skip)))
def f__law_below : Ev.Fn := ⟨2, 6, b__law_below⟩
def b__law_rising : Ev.S := (.seq (.asg (.nm 1) (.lst (.cons (.tup .nil) .nil))) (.seq (.fr (.nm 2) (.val (.var 0)) (.seq (.asg (.nm 1) (.bin .add (.var 1) (.lc [3] (.nm 3) (.val (.var 1)) (.or (.val (.cmp .eq (.var 3) (.tup .nil))) (.val (.cmp .lt (.idx (.var 3) (.neg (.cst (.int 1)))) (.var 2)))) (.bin .add (.var 3) (.tup (.cons (.var 2) .nil)))))) .skip)) (.seq (.ret (.var 1)) .skip)))
def f__law_rising : Ev.Fn := ⟨1, 4, b__law_rising⟩
def b__law_rises_right : Ev.S := (.seq (.asg (.cons (.nm 2) (.cons (.nm 3) (.cons (.nm 4) .nil))) (.var 1)) (.seq (.ife (.or (.val (.cmp .ne (.var 2) (.cst (.str ⟨#[114, 105, 115, 101, 115]⟩)))) (.or (.val (.cmp .notin (.var 3) (.call 37 (.cons (.var 0) .nil)))) (.val (.cmp .ne (.blt .len (.cons (.var 4) .nil)) (.blt .len (.cons (.var 3) .nil)))))) (.seq (.ret (.cst (.bl false))) .skip) .skip) (.seq (.asg (.nm 5) (.lst .nil)) (.seq (.fr (.nm 6) (.val (.var 4)) (.seq (.ife (.or (.not (.val (.isi .tuple (.var 6)))) (.or (.val (.cmp .eq (.var 6) (.tup .nil))) (.val (.cmp .notin (.rev (.var 6)) (.call 37 (.cons (.rev (.var 0)) .nil)))))) (.seq (.ret (.cst (.bl false))) .skip) .skip) (.seq (.asg (.nm 5) (.bin .add (.var 5) (.blt .list (.cons (.var 6) .nil)))) .skip))) (.seq (.ret (.and (.cmp .eq (.blt .sorted (.cons (.var 5) .nil)) (.blt .list (.cons (.blt .range (.cons (.blt .len (.cons (.var 0) .nil)) .nil)) .nil))) (.cmp .eq (.lc [6] (.nm 6) (.val (.var 4)) .none (.idx (.var 6) (.cst (.int 0)))) (.blt .sorted (.cons (.lc [6] (.nm 6) (.val (.var 4)) .none (.idx (.var 6) (.cst (.int 0)))) .nil))))) .skip)))))
def f__law_rises_right : Ev.Fn := ⟨2, 7, b__law_rises_right⟩
def b__law_tableaus : Ev.S := (.seq (.mul (.nm 1) (.nm 2) (.lst .nil) (.lst .nil)) (.seq (.fr (.nm 3) (.blt .range (.cons (.blt .len (.cons (.var 0) .nil)) .nil)) (.seq (.mul (.nm 4) (.nm 5) (.idx (.var 0) (.var 3)) (.cst (.int 0))) (.seq (.whl (.val (.cmp .isnot (.var 4) (.cst .non))) (.seq (.ife (.val (.cmp .eq (.var 5) (.blt .len (.cons (.var 1) .nil)))) (.seq (.exp (.mth .append (.var 1) (.cons (.lst .nil) .nil))) (.seq (.exp (.mth .append (.var 2) (.cons (.lst .nil) .nil))) .skip)) .skip) (.seq (.asg (.nm 6) (.lc [7] (.nm 7) (.blt .range (.cons (.blt .len (.cons (.idx (.var 1) (.var 5)) .nil)) .nil)) (.val (.cmp .gt (.idx (.idx (.var 1) (.var 5)) (.var 7)) (.var 4))) (.var 7))) (.seq (.ife (.val (.cmp .eq (.var 6) (.lst .nil))) (.seq (.exp (.mth .append (.idx (.var 1) (.var 5)) (.cons (.var 4) .nil))) (.seq (.exp (.mth .append (.idx (.var 2) (.var 5)) (.cons (.var 3) .nil))) (.seq (.asg (.nm 4) (.cst .non)) .skip))) (.seq (.mul (.sub (.idx (.var 1) (.var 5)) (.idx (.var 6) (.cst (.int 0)))) (.nm 4) (.var 4) (.idx (.idx (.var 1) (.var 5)) (.idx (.var 6) (.cst (.int 0))))) (.seq (.asg (.nm 5) (.bin .add (.var 5) (.cst (.int 1)))) .skip))) .skip)))) .skip))) (.seq (.ret (.tup (.cons (.blt .tuple (.cons (.lc [8] (.nm 8) (.val (.var 1)) .none (.blt .tuple (.cons (.var 8) .nil))) .nil)) (.cons (.blt .tuple (.cons (.lc [8] (.nm 8) (.val (.var 2)) .none (.blt .tuple (.cons (.var 8) .nil))) .nil)) .nil)))) .skip)))
def f__law_tableaus : Ev.Fn := ⟨1, 9, b__law_tableaus⟩
def b__law_heaps : Ev.S := (.seq (.asg (.nm 1) (.lst .nil)) (.seq (.fr (.nm 2) (.val (.var 0)) (.seq (.asg (.nm 3) (.lc [4] (.nm 4) (.blt .range (.cons (.blt .len (.cons (.var 1) .nil)) .nil)) (.val (.cmp .gt (.idx (.idx (.var 1) (.var 4)) (.neg (.cst (.int 1)))) (.var 2))) (.var 4))) (.seq (.ife (.val (.cmp .eq (.var 3) (.lst .nil))) (.seq (.exp (.mth .append (.var 1) (.cons (.lst (.cons (.var 2) .nil)) .nil))) .skip) (.seq (.exp (.mth .append (.idx (.var 1) (.idx (.var 3) (.cst (.int 0)))) (.cons (.var 2) .nil))) .skip)) .skip))) (.seq (.ret (.blt .tuple (.cons (.lc [5] (.nm 5) (.val (.var 1)) .none (.blt .tuple (.cons (.var 5) .nil))) .nil))) .skip)))
def f__law_heaps : Ev.Fn := ⟨1, 6, b__law_heaps⟩
def b__law_together : Ev.S := (.seq (.par 1 2 (.blt .len (.cons (.var 0) .nil)) (.lst .nil)) (.seq (.asg (.nm 3) (.lst (.cons (.tup .nil) .nil))) (.seq (.fr (.nm 4) (.val (.var 0)) (.seq (.asg (.nm 3) (.bin .add (.var 3) (.lc [7] (.nm 7) (.val (.var 3)) .none (.bin .add (.var 7) (.tup (.cons (.var 4) .nil)))))) .skip)) (.seq (.asg (.nm 5) (.lc [7] (.nm 7) (.val (.var 3)) .none (.tup (.cons (.blt .len (.cons (.var 7) .nil)) (.cons (.blt .max (.cons (.lc [8] (.nm 8) (.val (.call 37 (.cons (.rev (.var 7)) .nil))) .none (.blt .len (.cons (.var 8) .nil))) .nil)) .nil))))) (.seq (.fr (.nm 6) (.blt .range (.cons (.cst (.int 1)) (.cons (.bin .add (.var 1) (.cst (.int 1))) .nil))) (.seq (.exp (.mth .append (.var 2) (.cons (.blt .max (.cons (.lc [9, 10] (.cons (.nm 9) (.cons (.nm 10) .nil)) (.val (.var 5)) (.val (.cmp .le (.var 10) (.var 6))) (.var 9)) .nil)) .nil))) .skip)) (.seq (.ret (.blt .tuple (.cons (.var 2) .nil))) .skip))))))
def f__law_together : Ev.Fn := ⟨1, 11, b__law_together⟩
def b__law_shapes : Ev.S := (.seq (.par 2 3 (.lst (.cons (.tup (.cons (.tup .nil) (.cons (.var 0) (.cons (.var 1) .nil)))) .nil)) (.lst .nil)) (.seq (.whl (.val (.cmp .ne (.var 2) (.lst .nil))) (.seq (.asg (.cons (.nm 4) (.cons (.nm 5) (.cons (.nm 6) .nil))) (.mth .pop (.var 2) .nil)) (.seq (.ife (.val (.cmp .eq (.var 5) (.cst (.int 0)))) (.seq (.exp (.mth .append (.var 3) (.cons (.var 4) .nil))) .skip) .skip) (.seq (.fr (.nm 7) (.blt .range (.cons (.cst (.int 1)) (.cons (.bin .add (.blt .min (.cons (.var 5) (.cons (.var 6) .nil))) (.cst (.int 1))) .nil))) (.seq (.exp (.mth .append (.var 2) (.cons (.tup (.cons (.bin .add (.var 4) (.tup (.cons (.var 7) .nil))) (.cons (.bin .sub (.var 5) (.var 7)) (.cons (.var 7) .nil)))) .nil))) .skip)) .skip)))) (.seq (.ret (.blt .sorted (.cons (.var 3) .nil))) .skip)))
def f__law_shapes : Ev.Fn := ⟨2, 8, b__law_shapes⟩
def b__law_fillings : Ev.S := (.seq (.par3 1 2 3 (.blt .sum (.cons (.var 0) .nil)) (.cst (.int 1)) (.cst (.int 1))) (.seq (.fr (.nm 4) (.blt .range (.cons (.cst (.int 1)) (.cons (.bin .add (.var 1) (.cst (.int 1))) .nil))) (.seq (.asg (.nm 2) (.bin .mul (.var 2) (.var 4))) .skip)) (.seq (.fr (.nm 5) (.blt .range (.cons (.blt .len (.cons (.var 0) .nil)) .nil)) (.seq (.fr (.nm 6) (.blt .range (.cons (.idx (.var 0) (.var 5)) .nil)) (.seq (.asg (.nm 3) (.bin .mul (.var 3) (.bin .add (.bin .sub (.idx (.var 0) (.var 5)) (.var 6)) (.blt .len (.cons (.lc [7] (.nm 7) (.val (.slc (.var 0) (.bin .add (.var 5) (.cst (.int 1))) .none)) (.val (.cmp .gt (.var 7) (.var 6))) (.var 7)) .nil))))) .skip)) .skip)) (.seq (.ret (.bin .fdiv (.var 2) (.var 3))) .skip))))
def f__law_fillings : Ev.Fn := ⟨1, 8, b__law_fillings⟩
def b__law_shapes_right : Ev.S := (.seq (.asg (.nm 1) (.bin .add (.cst (.int 1)) (.call 26 (.cons (.var 0) (.cons (.cst (.int 7)) .nil))))) (.seq (.par 2 3 (.call 42 (.cons (.var 1) (.cons (.var 1) .nil))) (.cst (.int 1))) (.seq (.fr (.nm 4) (.blt .range (.cons (.cst (.int 1)) (.cons (.bin .add (.var 1) (.cst (.int 1))) .nil))) (.seq (.asg (.nm 3) (.bin .mul (.var 3) (.var 4))) .skip)) (.seq (.asg (.nm 5) (.call 27 (.cons (.var 0) (.cons (.var 2) .nil)))) (.seq (.ife (.or (.not (.val (.call 28 (.cons (.tup (.cons (.call 7 (.cons (.var 1) .nil)) (.cons (.call 6 (.cons (.var 5) .nil)) .nil))) (.cons (.tup (.cons (.blt .tuple (.cons (.var 2) .nil)) (.cons (.call 43 (.cons (.var 5) .nil)) .nil))) .nil))))) (.val (.cmp .isnot (.call 5 (.cons (.var 5) .nil)) (.cst (.bl true))))) (.seq (.ret (.cst (.bl false))) .skip) .skip) (.seq (.ife (.val (.cmp .ne (.blt .sum (.cons (.lc [6] (.nm 6) (.val (.var 2)) .none (.bin .mul (.call 6 (.cons (.var 6) .nil)) (.call 6 (.cons (.var 6) .nil)))) .nil)) (.var 3))) (.seq (.ret (.cst (.bl false))) .skip) .skip) (.seq (.ret (.cmp .is_ (.call 5 (.cons (.call 27 (.cons (.var 0) (.cons (.lst (.cons (.tup .nil) (.cons (.tup (.cons (.cst (.int 0)) .nil)) (.cons (.tup (.cons (.cst (.int 1)) (.cons (.cst (.int 2)) .nil))) (.cons (.tup (.cons (.cst (.int 25)) .nil)) (.cons (.tup (.cons (.cst (.int 3)) (.cons (.neg (.cst (.int 1))) .nil))) (.cons (.lst (.cons (.cst (.int 1)) .nil)) (.cons (.cst .non) (.cons (.tup (.cons (.cst (.int 12)) (.cons (.cst (.int 13)) .nil))) .nil))))))))) .nil))) .nil)) (.cst (.bl false)))) .skip)))))))
def f__law_shapes_right : Ev.Fn := ⟨1, 7, b__law_shapes_right⟩
def b_law : Ev.S := (.seq (.asg (.nm 1) (.lst (.cons (.call 25 (.cons (.var 0) (.cons (.cst (.int 0)) (.cons (.cst (.int 63)) .nil)))) (.cons (.cst (.int 0)) .nil)))) (.seq (.asg (.nm 2) (.bin .add (.cst (.int 1)) (.call 26 (.cons (.var 1) (.cons (.cst (.int 4)) .nil))))) (.seq (.mul (.nm 3) (.nm 4) (.call 29 (.cons (.var 1) (.cons (.var 2) .nil))) (.call 29 (.cons (.var 1) (.cons (.var 2) .nil)))) (.seq (.asg (.nm 5) (.call 32 (.cons (.var 3) .nil))) (.seq (.asg (.nm 6) (.blt .tuple (.cons (.lc [17] (.nm 17) (.blt .range (.cons (.var 2) .nil)) .none (.blt .len (.cons (.lc [18] (.nm 18) (.val (.var 5)) (.val (.cmp .eq (.idx (.var 18) (.cst (.int 0))) (.var 17))) (.var 18)) .nil))) .nil))) (.seq (.ife (.not (.val (.call 28 (.cons (.tup (.cons (.call 10 (.cons (.var 3) .nil)) (.cons (.call 11 (.cons (.var 3) .nil)) (.cons (.call 13 (.cons (.var 3) .nil)) (.cons (.call 14 (.cons (.var 6) .nil)) .nil))))) (.cons (.tup (.cons (.blt .tuple (.cons (.var 5) .nil)) (.cons (.blt .len (.cons (.var 5) .nil)) (.cons (.var 6) (.cons (.var 3) .nil))))) .nil))))) (.seq (.ret (.cst (.bl false))) .skip) .skip) (.seq (.ife (.not (.val (.call 28 (.cons (.call 12 (.cons (.var 3) .nil)) (.cons (.blt .tuple (.cons (.lc [19] (.nm 19) (.blt .range (.cons (.bin .sub (.var 2) (.cst (.int 1))) .nil)) (.val (.cmp .gt (.idx (.var 3) (.var 19)) (.idx (.var 3) (.bin .add (.var 19) (.cst (.int 1)))))) (.var 19)) .nil)) .nil))))) (.seq (.ret (.cst (.bl false))) .skip) .skip) (.seq (.asg (.nm 7) (.call 34 (.cons (.var 2) .nil))) (.seq (.ife (.not (.val (.call 28 (.cons (.tup (.cons (.call 16 (.cons (.var 3) .nil)) (.cons (.call 18 (.cons (.var 3) .nil)) (.cons (.call 17 (.cons (.var 3) (.cons (.idx (.idx (.var 7) (.var 3)) (.cst (.int 0))) .nil))) .nil)))) (.cons (.tup (.cons (.idx (.idx (.var 7) (.var 3)) (.cst (.int 0))) (.cons (.idx (.idx (.var 7) (.var 3)) (.cst (.int 1))) (.cons (.blt .tuple (.cons (.blt .range (.cons (.var 2) .nil)) .nil)) .nil)))) .nil))))) (.seq (.ret (.cst (.bl false))) .skip) .skip) (.seq (.ife (.not (.val (.call 28 (.cons (.tup (.cons (.call 19 (.cons (.var 3) (.cons (.var 4) .nil))) (.cons (.call 19 (.cons (.var 3) (.cons (.var 3) .nil))) (.cons (.call 19 (.cons (.blt .tuple (.cons (.blt .range (.cons (.var 2) .nil)) .nil)) (.cons (.var 3) .nil))) .nil)))) (.cons (.tup (.cons (.call 36 (.cons (.var 3) (.cons (.var 4) .nil))) (.cons (.cst .non) (.cons (.cst .non) .nil)))) .nil))))) (.seq (.ret (.cst (.bl false))) .skip) .skip) (.seq (.asg (.nm 8) (.call 21 (.cons (.var 3) .nil))) (.seq (.asg (.nm 9) (.blt .max (.cons (.lc [16] (.nm 16) (.val (.call 37 (.cons (.var 3) .nil))) .none (.blt .len (.cons (.var 16) .nil))) .nil))) (.seq (.asg (.nm 10) (.blt .min (.cons (.lc [16] (.nm 16) (.val (.call 37 (.cons (.var 3) .nil))) (.val (.cmp .eq (.blt .len (.cons (.var 16) .nil)) (.var 9))) (.var 16)) .nil))) (.seq (.ife (.or (.not (.val (.call 28 (.cons (.slc (.var 8) .none (.cst (.int 2))) (.cons (.tup (.cons (.cst (.str ⟨#[114, 105, 115, 101, 115]⟩)) (.cons (.var 10) .nil))) .nil))))) (.or (.not (.val (.call 38 (.cons (.var 3) (.cons (.var 8) .nil))))) (.val (.cmp .isnot (.call 23 (.cons (.var 8) (.cons (.var 3) .nil))) (.cst (.bl true)))))) (.seq (.ret (.cst (.bl false))) .skip) .skip) (.seq (.fr (.nm 11) (.val (.tup (.cons (.bin .add (.slc (.var 8) .none (.cst (.int 2))) (.tup (.cons (.slc (.idx (.var 8) (.cst (.int 2))) (.cst (.int 1)) .none) .nil))) (.cons (.bin .add (.bin .add (.slc (.var 8) .none (.cst (.int 1))) (.tup (.cons (.slc (.idx (.var 8) (.cst (.int 1))) (.cst (.int 1)) .none) .nil))) (.slc (.var 8) (.cst (.int 2)) .none)) (.cons (.bin .add (.slc (.var 8) .none (.cst (.int 2))) (.tup (.cons (.rev (.idx (.var 8) (.cst (.int 2)))) .nil))) (.cons (.bin .add (.tup (.cons (.cst (.str ⟨#[102, 97, 108, 108, 115]⟩)) .nil)) (.slc (.var 8) (.cst (.int 1)) .none)) .nil)))))) (.seq (.ife (.not (.val (.call 28 (.cons (.call 23 (.cons (.var 11) (.cons (.var 3) .nil))) (.cons (.call 38 (.cons (.var 3) (.cons (.var 11) .nil))) .nil))))) (.seq (.ret (.cst (.bl false))) .skip) .skip) .skip)) (.seq (.asg (.cons (.nm 12) (.cons (.nm 13) .nil)) (.call 39 (.cons (.var 3) .nil))) (.seq (.ife (.not (.val (.call 28 (.cons (.tup (.cons (.call 3 (.cons (.var 3) .nil)) (.cons (.call 4 (.cons (.var 12) (.cons (.var 13) .nil))) (.cons (.call 3 (.cons (.call 30 (.cons (.var 3) .nil)) .nil)) .nil)))) (.cons (.tup (.cons (.tup (.cons (.var 12) (.cons (.var 13) .nil))) (.cons (.var 3) (.cons (.tup (.cons (.var 13) (.cons (.var 12) .nil))) .nil)))) .nil))))) (.seq (.ret (.cst (.bl false))) .skip) .skip) (.seq (.par 14 15 (.cst (.int 0)) (.lst .nil)) (.seq (.fr (.nm 16) (.val (.var 12)) (.seq (.asg (.nm 14) (.bin .add (.var 14) (.blt .len (.cons (.var 16) .nil)))) (.seq (.exp (.mth .append (.var 15) (.cons (.var 14) .nil))) .skip))) (.seq (.asg (.nm 15) (.bin .add (.var 15) (.bin .mul (.lst (.cons (.var 2) .nil)) (.bin .sub (.var 2) (.blt .len (.cons (.var 15) .nil)))))) (.seq (.ife (.val (.cmp .ne (.blt .tuple (.cons (.var 15) .nil)) (.call 41 (.cons (.var 3) .nil)))) (.seq (.ret (.cst (.bl false))) .skip) .skip) (.seq (.ife (.not (.val (.call 28 (.cons (.tup (.cons (.call 8 (.cons (.var 3) .nil)) (.cons (.blt .len (.cons (.call 8 (.cons (.var 3) .nil)) .nil)) (.cons (.slc (.call 9 (.cons (.var 3) .nil)) .none (.blt .len (.cons (.var 12) .nil))) .nil)))) (.cons (.tup (.cons (.call 40 (.cons (.var 3) .nil)) (.cons (.var 9) (.cons (.slc (.blt .tuple (.cons (.var 15) .nil)) .none (.blt .len (.cons (.var 12) .nil))) .nil)))) .nil))))) (.seq (.ret (.cst (.bl false))) .skip) .skip) (.seq (.ret (.and (.cmp .is_ (.call 23 (.cons (.call 27 (.cons (.var 1) (.cons (.lst (.cons (.cst .non) (.cons (.tup .nil) (.cons (.tup (.cons (.cst (.str ⟨#[114, 105, 115, 101, 115]⟩)) .nil)) (.cons (.cst (.int 5)) .nil))))) .nil))) (.cons (.var 3) .nil))) (.cst (.bl false))) (.call 44 (.cons (.var 1) .nil)))) .skip)))))))))))))))))))))))
def f_law : Ev.Fn := ⟨1, 20, b_law⟩
def P : List Ev.Fn := [f_is_whole, f_is_form, f_first_greater, f_tableaus, f_turning_back, f_is_shape, f_how_many_fillings, f_shapes, f_heaps, f_greene, f_inversions, f_length, f_descents, f_code, f_of_code, f_exchanged, f_sorting, f_sorted_by, f_how_many_sortings, f_below, f_first_rising, f_rises, f_is_row, f_is_rises, f__law_cell, f__law_digits, f__law_draw, f__law_pick, f__law_like, f__law_turning, f__law_back, f__law_all, f__law_inversions, f__law_exchanged, f__law_sortings, f__law_many, f__law_below, f__law_rising, f__law_rises_right, f__law_tableaus, f__law_heaps, f__law_together, f__law_shapes, f__law_fillings, f__law_shapes_right, f_law]
def fs : List PySem.Str := [("is_whole" : PySem.Str), ("is_form" : PySem.Str), ("first_greater" : PySem.Str), ("tableaus" : PySem.Str), ("turning_back" : PySem.Str), ("is_shape" : PySem.Str), ("how_many_fillings" : PySem.Str), ("shapes" : PySem.Str), ("heaps" : PySem.Str), ("greene" : PySem.Str), ("inversions" : PySem.Str), ("length" : PySem.Str), ("descents" : PySem.Str), ("code" : PySem.Str), ("of_code" : PySem.Str), ("exchanged" : PySem.Str), ("sorting" : PySem.Str), ("sorted_by" : PySem.Str), ("how_many_sortings" : PySem.Str), ("below" : PySem.Str), ("first_rising" : PySem.Str), ("rises" : PySem.Str), ("is_row" : PySem.Str), ("is_rises" : PySem.Str), ("_law_cell" : PySem.Str), ("_law_digits" : PySem.Str), ("_law_draw" : PySem.Str), ("_law_pick" : PySem.Str), ("_law_like" : PySem.Str), ("_law_turning" : PySem.Str), ("_law_back" : PySem.Str), ("_law_all" : PySem.Str), ("_law_inversions" : PySem.Str), ("_law_exchanged" : PySem.Str), ("_law_sortings" : PySem.Str), ("_law_many" : PySem.Str), ("_law_below" : PySem.Str), ("_law_rising" : PySem.Str), ("_law_rises_right" : PySem.Str), ("_law_tableaus" : PySem.Str), ("_law_heaps" : PySem.Str), ("_law_together" : PySem.Str), ("_law_shapes" : PySem.Str), ("_law_fillings" : PySem.Str), ("_law_shapes_right" : PySem.Str), ("law" : PySem.Str)]
def cs : List (PySem.Str × Ev.D) := []
def im : List Ev.Blt := [.factorial]
section
variable {prog : Program} {w : World} {K : PySem.W.Frag} {h : Heap} {mg : PySem.Str → Option Value} (c : He.SaysD Hd.fa Hd.fn K) (ci : Hd.ims.all (nsOk K) = true) (X : K.In h) (G : h.Ns mainGlobals mg)
theorem sc_is_whole : FnScope ["thing", "least", "most"] ["thing", "least", "most"] Hd.d_is_whole.scope := sc_ok (by decide +kernel)
theorem ck_is_whole : chkSs b_is_whole ⟨["thing", "least", "most"], Hd.d_is_whole.scope, none, fs, cs, im⟩ Hd.d_is_whole.body = true := by decide +kernel
theorem bn_is_whole {f : Addr} {fd : FuncData} (F : FunD K Hd.d_is_whole.name Hd.d_is_whole.qual Hd.d_is_whole.params Hd.d_is_whole.body Hd.d_is_whole.scope [] [] f fd) : Binds K fd ["thing", "least", "most"] [] := F.bindsN fun _ _ _ _ _ _ us hl => match us, hl with | [_, _, _], _ => rfl
include c X G in
theorem ok_is_whole : DefOk prog w K mg fs cs im 0 f_is_whole := by
  obtain ⟨fd, F⟩ := c.def_ 0 (d := Hd.d_is_whole) rfl
  exact ⟨"is_whole", _, fd, ["thing", "least", "most"], ["thing", "least", "most"], _, _, _, _, _, rfl, He.glo_ok X G (c.fact 0 (f := .glo "is_whole") rfl), F, bn_is_whole F, sc_is_whole, rfl, rfl, ck_is_whole⟩
theorem sc_is_form : FnScope ["thing", "word", "many"] ["thing", "word", "many"] Hd.d_is_form.scope := sc_ok (by decide +kernel)
theorem ck_is_form : chkSs b_is_form ⟨["thing", "word", "many"], Hd.d_is_form.scope, none, fs, cs, im⟩ Hd.d_is_form.body = true := by decide +kernel
theorem bn_is_form {f : Addr} {fd : FuncData} (F : FunD K Hd.d_is_form.name Hd.d_is_form.qual Hd.d_is_form.params Hd.d_is_form.body Hd.d_is_form.scope [] [] f fd) : Binds K fd ["thing", "word", "many"] [] := F.bindsN fun _ _ _ _ _ _ us hl => match us, hl with | [_, _, _], _ => rfl
include c X G in
theorem ok_is_form : DefOk prog w K mg fs cs im 1 f_is_form := by
  obtain ⟨fd, F⟩ := c.def_ 1 (d := Hd.d_is_form) rfl
  exact ⟨"is_form", _, fd, ["thing", "word", "many"], ["thing", "word", "many"], _, _, _, _, _, rfl, He.glo_ok X G (c.fact 1 (f := .glo "is_form") rfl), F, bn_is_form F, sc_is_form, rfl, rfl, ck_is_form⟩
theorem sc_first_greater : FnScope ["row", "number", "low", "high", "middle"] ["row", "number"] Hd.d_first_greater.scope := sc_ok (by decide +kernel)
theorem ck_first_greater : chkSs b_first_greater ⟨["row", "number", "low", "high", "middle"], Hd.d_first_greater.scope, none, fs, cs, im⟩ Hd.d_first_greater.body = true := by decide +kernel
theorem bn_first_greater {f : Addr} {fd : FuncData} (F : FunD K Hd.d_first_greater.name Hd.d_first_greater.qual Hd.d_first_greater.params Hd.d_first_greater.body Hd.d_first_greater.scope [] [] f fd) : Binds K fd ["row", "number"] [] := F.bindsN fun _ _ _ _ _ _ us hl => match us, hl with | [_, _], _ => rfl
include c X G in
theorem ok_first_greater : DefOk prog w K mg fs cs im 2 f_first_greater := by
  obtain ⟨fd, F⟩ := c.def_ 2 (d := Hd.d_first_greater) rfl
  exact ⟨"first_greater", _, fd, ["row", "number"], ["row", "number", "low", "high", "middle"], _, _, _, _, _, rfl, He.glo_ok X G (c.fact 2 (f := .glo "first_greater") rfl), F, bn_first_greater F, sc_first_greater, rfl, rfl, ck_first_greater⟩
theorem sc_tableaus : FnScope ["turning", "rows", "steps", "step", "number", "at", "going", "row", "place"] ["turning"] Hd.d_tableaus.scope := sc_ok (by decide +kernel)
theorem ck_tableaus : chkSs b_tableaus ⟨["turning", "rows", "steps", "step", "number", "at", "going", "row", "place"], Hd.d_tableaus.scope, none, fs, cs, im⟩ Hd.d_tableaus.body = true := by decide +kernel
theorem bn_tableaus {f : Addr} {fd : FuncData} (F : FunD K Hd.d_tableaus.name Hd.d_tableaus.qual Hd.d_tableaus.params Hd.d_tableaus.body Hd.d_tableaus.scope [] [] f fd) : Binds K fd ["turning"] [] := F.bindsN fun _ _ _ _ _ _ us hl => match us, hl with | [_], _ => rfl
include c X G in
theorem ok_tableaus : DefOk prog w K mg fs cs im 3 f_tableaus := by
  obtain ⟨fd, F⟩ := c.def_ 3 (d := Hd.d_tableaus) rfl
  exact ⟨"tableaus", _, fd, ["turning"], ["turning", "rows", "steps", "step", "number", "at", "going", "row", "place"], _, _, _, _, _, rfl, He.glo_ok X G (c.fact 3 (f := .glo "tableaus") rfl), F, bn_tableaus F, sc_tableaus, rfl, rfl, ck_tableaus⟩
theorem sc_turning_back : FnScope ["P", "Q", "rows", "steps", "told", "step", "at", "number", "row", "place", "k"] ["P", "Q"] Hd.d_turning_back.scope := sc_ok (by decide +kernel)
theorem ck_turning_back : chkSs b_turning_back ⟨["P", "Q", "rows", "steps", "told", "step", "at", "number", "row", "place", "k"], Hd.d_turning_back.scope, none, fs, cs, im⟩ Hd.d_turning_back.body = true := by decide +kernel
theorem bn_turning_back {f : Addr} {fd : FuncData} (F : FunD K Hd.d_turning_back.name Hd.d_turning_back.qual Hd.d_turning_back.params Hd.d_turning_back.body Hd.d_turning_back.scope [] [] f fd) : Binds K fd ["P", "Q"] [] := F.bindsN fun _ _ _ _ _ _ us hl => match us, hl with | [_, _], _ => rfl
include c X G in
theorem ok_turning_back : DefOk prog w K mg fs cs im 4 f_turning_back := by
  obtain ⟨fd, F⟩ := c.def_ 4 (d := Hd.d_turning_back) rfl
  exact ⟨"turning_back", _, fd, ["P", "Q"], ["P", "Q", "rows", "steps", "told", "step", "at", "number", "row", "place", "k"], _, _, _, _, _, rfl, He.glo_ok X G (c.fact 4 (f := .glo "turning_back") rfl), F, bn_turning_back F, sc_turning_back, rfl, rfl, ck_turning_back⟩
theorem sc_is_shape : FnScope ["thing", "number", "one", "other"] ["thing"] Hd.d_is_shape.scope := sc_ok (by decide +kernel)
theorem ck_is_shape : chkSs b_is_shape ⟨["thing", "number", "one", "other"], Hd.d_is_shape.scope, none, fs, cs, im⟩ Hd.d_is_shape.body = true := by decide +kernel
theorem bn_is_shape {f : Addr} {fd : FuncData} (F : FunD K Hd.d_is_shape.name Hd.d_is_shape.qual Hd.d_is_shape.params Hd.d_is_shape.body Hd.d_is_shape.scope [] [] f fd) : Binds K fd ["thing"] [] := F.bindsN fun _ _ _ _ _ _ us hl => match us, hl with | [_], _ => rfl
include c X G in
theorem ok_is_shape : DefOk prog w K mg fs cs im 5 f_is_shape := by
  obtain ⟨fd, F⟩ := c.def_ 5 (d := Hd.d_is_shape) rfl
  exact ⟨"is_shape", _, fd, ["thing"], ["thing", "number", "one", "other"], _, _, _, _, _, rfl, He.glo_ok X G (c.fact 5 (f := .glo "is_shape") rfl), F, bn_is_shape F, sc_is_shape, rfl, rfl, ck_is_shape⟩
theorem sc_how_many_fillings : FnScope ["shape", "hooks", "at", "many", "place", "below", "other"] ["shape"] Hd.d_how_many_fillings.scope := sc_ok (by decide +kernel)
theorem ck_how_many_fillings : chkSs b_how_many_fillings ⟨["shape", "hooks", "at", "many", "place", "below", "other"], Hd.d_how_many_fillings.scope, none, fs, cs, im⟩ Hd.d_how_many_fillings.body = true := by decide +kernel
theorem bn_how_many_fillings {f : Addr} {fd : FuncData} (F : FunD K Hd.d_how_many_fillings.name Hd.d_how_many_fillings.qual Hd.d_how_many_fillings.params Hd.d_how_many_fillings.body Hd.d_how_many_fillings.scope [] [] f fd) : Binds K fd ["shape"] [] := F.bindsN fun _ _ _ _ _ _ us hl => match us, hl with | [_], _ => rfl
include c X G in
theorem ok_how_many_fillings : DefOk prog w K mg fs cs im 6 f_how_many_fillings := by
  obtain ⟨fd, F⟩ := c.def_ 6 (d := Hd.d_how_many_fillings) rfl
  exact ⟨"how_many_fillings", _, fd, ["shape"], ["shape", "hooks", "at", "many", "place", "below", "other"], _, _, _, _, _, rfl, He.glo_ok X G (c.fact 6 (f := .glo "how_many_fillings") rfl), F, bn_how_many_fillings F, sc_how_many_fillings, rfl, rfl, ck_how_many_fillings⟩
theorem sc_shapes : FnScope ["n", "rows", "told", "longer", "shape", "left", "most", "number"] ["n"] Hd.d_shapes.scope := sc_ok (by decide +kernel)
theorem ck_shapes : chkSs b_shapes ⟨["n", "rows", "told", "longer", "shape", "left", "most", "number"], Hd.d_shapes.scope, none, fs, cs, im⟩ Hd.d_shapes.body = true := by decide +kernel
theorem bn_shapes {f : Addr} {fd : FuncData} (F : FunD K Hd.d_shapes.name Hd.d_shapes.qual Hd.d_shapes.params Hd.d_shapes.body Hd.d_shapes.scope [] [] f fd) : Binds K fd ["n"] [] := F.bindsN fun _ _ _ _ _ _ us hl => match us, hl with | [_], _ => rfl
include c X G in
theorem ok_shapes : DefOk prog w K mg fs cs im 7 f_shapes := by
  obtain ⟨fd, F⟩ := c.def_ 7 (d := Hd.d_shapes) rfl
  exact ⟨"shapes", _, fd, ["n"], ["n", "rows", "told", "longer", "shape", "left", "most", "number"], _, _, _, _, _, rfl, He.glo_ok X G (c.fact 7 (f := .glo "shapes") rfl), F, bn_shapes F, sc_shapes, rfl, rfl, ck_shapes⟩
theorem sc_heaps : FnScope ["turning", "told", "number", "fitting", "heap"] ["turning"] Hd.d_heaps.scope := sc_ok (by decide +kernel)
theorem ck_heaps : chkSs b_heaps ⟨["turning", "told", "number", "fitting", "heap"], Hd.d_heaps.scope, none, fs, cs, im⟩ Hd.d_heaps.body = true := by decide +kernel
theorem bn_heaps {f : Addr} {fd : FuncData} (F : FunD K Hd.d_heaps.name Hd.d_heaps.qual Hd.d_heaps.params Hd.d_heaps.body Hd.d_heaps.scope [] [] f fd) : Binds K fd ["turning"] [] := F.bindsN fun _ _ _ _ _ _ us hl => match us, hl with | [_], _ => rfl
include c X G in
theorem ok_heaps : DefOk prog w K mg fs cs im 8 f_heaps := by
  obtain ⟨fd, F⟩ := c.def_ 8 (d := Hd.d_heaps) rfl
  exact ⟨"heaps", _, fd, ["turning"], ["turning", "told", "number", "fitting", "heap"], _, _, _, _, _, rfl, He.glo_ok X G (c.fact 8 (f := .glo "heaps") rfl), F, bn_heaps F, sc_heaps, rfl, rfl, ck_heaps⟩
theorem sc_greene : FnScope ["turning", "told", "total", "row"] ["turning"] Hd.d_greene.scope := sc_ok (by decide +kernel)
theorem ck_greene : chkSs b_greene ⟨["turning", "told", "total", "row"], Hd.d_greene.scope, none, fs, cs, im⟩ Hd.d_greene.body = true := by decide +kernel
theorem bn_greene {f : Addr} {fd : FuncData} (F : FunD K Hd.d_greene.name Hd.d_greene.qual Hd.d_greene.params Hd.d_greene.body Hd.d_greene.scope [] [] f fd) : Binds K fd ["turning"] [] := F.bindsN fun _ _ _ _ _ _ us hl => match us, hl with | [_], _ => rfl
include c X G in
theorem ok_greene : DefOk prog w K mg fs cs im 9 f_greene := by
  obtain ⟨fd, F⟩ := c.def_ 9 (d := Hd.d_greene) rfl
  exact ⟨"greene", _, fd, ["turning"], ["turning", "told", "total", "row"], _, _, _, _, _, rfl, He.glo_ok X G (c.fact 9 (f := .glo "greene") rfl), F, bn_greene F, sc_greene, rfl, rfl, ck_greene⟩
theorem sc_inversions : FnScope ["turning", "n", "i", "j"] ["turning"] Hd.d_inversions.scope := sc_ok (by decide +kernel)
theorem ck_inversions : chkSs b_inversions ⟨["turning", "n", "i", "j"], Hd.d_inversions.scope, none, fs, cs, im⟩ Hd.d_inversions.body = true := by decide +kernel
theorem bn_inversions {f : Addr} {fd : FuncData} (F : FunD K Hd.d_inversions.name Hd.d_inversions.qual Hd.d_inversions.params Hd.d_inversions.body Hd.d_inversions.scope [] [] f fd) : Binds K fd ["turning"] [] := F.bindsN fun _ _ _ _ _ _ us hl => match us, hl with | [_], _ => rfl
include c X G in
theorem ok_inversions : DefOk prog w K mg fs cs im 10 f_inversions := by
  obtain ⟨fd, F⟩ := c.def_ 10 (d := Hd.d_inversions) rfl
  exact ⟨"inversions", _, fd, ["turning"], ["turning", "n", "i", "j"], _, _, _, _, _, rfl, He.glo_ok X G (c.fact 10 (f := .glo "inversions") rfl), F, bn_inversions F, sc_inversions, rfl, rfl, ck_inversions⟩
theorem sc_length : FnScope ["turning"] ["turning"] Hd.d_length.scope := sc_ok (by decide +kernel)
theorem ck_length : chkSs b_length ⟨["turning"], Hd.d_length.scope, none, fs, cs, im⟩ Hd.d_length.body = true := by decide +kernel
theorem bn_length {f : Addr} {fd : FuncData} (F : FunD K Hd.d_length.name Hd.d_length.qual Hd.d_length.params Hd.d_length.body Hd.d_length.scope [] [] f fd) : Binds K fd ["turning"] [] := F.bindsN fun _ _ _ _ _ _ us hl => match us, hl with | [_], _ => rfl
include c X G in
theorem ok_length : DefOk prog w K mg fs cs im 11 f_length := by
  obtain ⟨fd, F⟩ := c.def_ 11 (d := Hd.d_length) rfl
  exact ⟨"length", _, fd, ["turning"], ["turning"], _, _, _, _, _, rfl, He.glo_ok X G (c.fact 11 (f := .glo "length") rfl), F, bn_length F, sc_length, rfl, rfl, ck_length⟩
theorem sc_descents : FnScope ["turning", "i"] ["turning"] Hd.d_descents.scope := sc_ok (by decide +kernel)
theorem ck_descents : chkSs b_descents ⟨["turning", "i"], Hd.d_descents.scope, none, fs, cs, im⟩ Hd.d_descents.body = true := by decide +kernel
theorem bn_descents {f : Addr} {fd : FuncData} (F : FunD K Hd.d_descents.name Hd.d_descents.qual Hd.d_descents.params Hd.d_descents.body Hd.d_descents.scope [] [] f fd) : Binds K fd ["turning"] [] := F.bindsN fun _ _ _ _ _ _ us hl => match us, hl with | [_], _ => rfl
include c X G in
theorem ok_descents : DefOk prog w K mg fs cs im 12 f_descents := by
  obtain ⟨fd, F⟩ := c.def_ 12 (d := Hd.d_descents) rfl
  exact ⟨"descents", _, fd, ["turning"], ["turning", "i"], _, _, _, _, _, rfl, He.glo_ok X G (c.fact 12 (f := .glo "descents") rfl), F, bn_descents F, sc_descents, rfl, rfl, ck_descents⟩
theorem sc_code : FnScope ["turning", "i", "number", "one"] ["turning"] Hd.d_code.scope := sc_ok (by decide +kernel)
theorem ck_code : chkSs b_code ⟨["turning", "i", "number", "one"], Hd.d_code.scope, none, fs, cs, im⟩ Hd.d_code.body = true := by decide +kernel
theorem bn_code {f : Addr} {fd : FuncData} (F : FunD K Hd.d_code.name Hd.d_code.qual Hd.d_code.params Hd.d_code.body Hd.d_code.scope [] [] f fd) : Binds K fd ["turning"] [] := F.bindsN fun _ _ _ _ _ _ us hl => match us, hl with | [_], _ => rfl
include c X G in
theorem ok_code : DefOk prog w K mg fs cs im 13 f_code := by
  obtain ⟨fd, F⟩ := c.def_ 13 (d := Hd.d_code) rfl
  exact ⟨"code", _, fd, ["turning"], ["turning", "i", "number", "one"], _, _, _, _, _, rfl, He.glo_ok X G (c.fact 13 (f := .glo "code") rfl), F, bn_code F, sc_code, rfl, rfl, ck_code⟩
theorem sc_of_code : FnScope ["numbers", "left", "many"] ["numbers"] Hd.d_of_code.scope := sc_ok (by decide +kernel)
theorem ck_of_code : chkSs b_of_code ⟨["numbers", "left", "many"], Hd.d_of_code.scope, none, fs, cs, im⟩ Hd.d_of_code.body = true := by decide +kernel
theorem bn_of_code {f : Addr} {fd : FuncData} (F : FunD K Hd.d_of_code.name Hd.d_of_code.qual Hd.d_of_code.params Hd.d_of_code.body Hd.d_of_code.scope [] [] f fd) : Binds K fd ["numbers"] [] := F.bindsN fun _ _ _ _ _ _ us hl => match us, hl with | [_], _ => rfl
include c X G in
theorem ok_of_code : DefOk prog w K mg fs cs im 14 f_of_code := by
  obtain ⟨fd, F⟩ := c.def_ 14 (d := Hd.d_of_code) rfl
  exact ⟨"of_code", _, fd, ["numbers"], ["numbers", "left", "many"], _, _, _, _, _, rfl, He.glo_ok X G (c.fact 14 (f := .glo "of_code") rfl), F, bn_of_code F, sc_of_code, rfl, rfl, ck_of_code⟩
theorem sc_exchanged : FnScope ["turning", "k"] ["turning", "k"] Hd.d_exchanged.scope := sc_ok (by decide +kernel)
theorem ck_exchanged : chkSs b_exchanged ⟨["turning", "k"], Hd.d_exchanged.scope, none, fs, cs, im⟩ Hd.d_exchanged.body = true := by decide +kernel
theorem bn_exchanged {f : Addr} {fd : FuncData} (F : FunD K Hd.d_exchanged.name Hd.d_exchanged.qual Hd.d_exchanged.params Hd.d_exchanged.body Hd.d_exchanged.scope [] [] f fd) : Binds K fd ["turning", "k"] [] := F.bindsN fun _ _ _ _ _ _ us hl => match us, hl with | [_, _], _ => rfl
include c X G in
theorem ok_exchanged : DefOk prog w K mg fs cs im 15 f_exchanged := by
  obtain ⟨fd, F⟩ := c.def_ 15 (d := Hd.d_exchanged) rfl
  exact ⟨"exchanged", _, fd, ["turning", "k"], ["turning", "k"], _, _, _, _, _, rfl, He.glo_ok X G (c.fact 15 (f := .glo "exchanged") rfl), F, bn_exchanged F, sc_exchanged, rfl, rfl, ck_exchanged⟩
theorem sc_sorting : FnScope ["turning", "told", "places"] ["turning"] Hd.d_sorting.scope := sc_ok (by decide +kernel)
theorem ck_sorting : chkSs b_sorting ⟨["turning", "told", "places"], Hd.d_sorting.scope, none, fs, cs, im⟩ Hd.d_sorting.body = true := by decide +kernel
theorem bn_sorting {f : Addr} {fd : FuncData} (F : FunD K Hd.d_sorting.name Hd.d_sorting.qual Hd.d_sorting.params Hd.d_sorting.body Hd.d_sorting.scope [] [] f fd) : Binds K fd ["turning"] [] := F.bindsN fun _ _ _ _ _ _ us hl => match us, hl with | [_], _ => rfl
include c X G in
theorem ok_sorting : DefOk prog w K mg fs cs im 16 f_sorting := by
  obtain ⟨fd, F⟩ := c.def_ 16 (d := Hd.d_sorting) rfl
  exact ⟨"sorting", _, fd, ["turning"], ["turning", "told", "places"], _, _, _, _, _, rfl, He.glo_ok X G (c.fact 16 (f := .glo "sorting") rfl), F, bn_sorting F, sc_sorting, rfl, rfl, ck_sorting⟩
theorem sc_sorted_by : FnScope ["turning", "exchanges", "k"] ["turning", "exchanges"] Hd.d_sorted_by.scope := sc_ok (by decide +kernel)
theorem ck_sorted_by : chkSs b_sorted_by ⟨["turning", "exchanges", "k"], Hd.d_sorted_by.scope, none, fs, cs, im⟩ Hd.d_sorted_by.body = true := by decide +kernel
theorem bn_sorted_by {f : Addr} {fd : FuncData} (F : FunD K Hd.d_sorted_by.name Hd.d_sorted_by.qual Hd.d_sorted_by.params Hd.d_sorted_by.body Hd.d_sorted_by.scope [] [] f fd) : Binds K fd ["turning", "exchanges"] [] := F.bindsN fun _ _ _ _ _ _ us hl => match us, hl with | [_, _], _ => rfl
include c X G in
theorem ok_sorted_by : DefOk prog w K mg fs cs im 17 f_sorted_by := by
  obtain ⟨fd, F⟩ := c.def_ 17 (d := Hd.d_sorted_by) rfl
  exact ⟨"sorted_by", _, fd, ["turning", "exchanges"], ["turning", "exchanges", "k"], _, _, _, _, _, rfl, He.glo_ok X G (c.fact 17 (f := .glo "sorted_by") rfl), F, bn_sorted_by F, sc_sorted_by, rfl, rfl, ck_sorted_by⟩
theorem sc_how_many_sortings : FnScope ["turning", "ways", "_", "later", "here", "many", "k", "there"] ["turning"] Hd.d_how_many_sortings.scope := sc_ok (by decide +kernel)
theorem ck_how_many_sortings : chkSs b_how_many_sortings ⟨["turning", "ways", "_", "later", "here", "many", "k", "there"], Hd.d_how_many_sortings.scope, none, fs, cs, im⟩ Hd.d_how_many_sortings.body = true := by decide +kernel
theorem bn_how_many_sortings {f : Addr} {fd : FuncData} (F : FunD K Hd.d_how_many_sortings.name Hd.d_how_many_sortings.qual Hd.d_how_many_sortings.params Hd.d_how_many_sortings.body Hd.d_how_many_sortings.scope [] [] f fd) : Binds K fd ["turning"] [] := F.bindsN fun _ _ _ _ _ _ us hl => match us, hl with | [_], _ => rfl
include c X G in
theorem ok_how_many_sortings : DefOk prog w K mg fs cs im 18 f_how_many_sortings := by
  obtain ⟨fd, F⟩ := c.def_ 18 (d := Hd.d_how_many_sortings) rfl
  exact ⟨"how_many_sortings", _, fd, ["turning"], ["turning", "ways", "_", "later", "here", "many", "k", "there"], _, _, _, _, _, rfl, He.glo_ok X G (c.fact 18 (f := .glo "how_many_sortings") rfl), F, bn_how_many_sortings F, sc_how_many_sortings, rfl, rfl, ck_how_many_sortings⟩
theorem sc_below : FnScope ["one", "other", "n", "mine", "its", "k", "m", "many"] ["one", "other"] Hd.d_below.scope := sc_ok (by decide +kernel)
theorem ck_below : chkSs b_below ⟨["one", "other", "n", "mine", "its", "k", "m", "many"], Hd.d_below.scope, none, fs, cs, im⟩ Hd.d_below.body = true := by decide +kernel
theorem bn_below {f : Addr} {fd : FuncData} (F : FunD K Hd.d_below.name Hd.d_below.qual Hd.d_below.params Hd.d_below.body Hd.d_below.scope [] [] f fd) : Binds K fd ["one", "other"] [] := F.bindsN fun _ _ _ _ _ _ us hl => match us, hl with | [_, _], _ => rfl
include c X G in
theorem ok_below : DefOk prog w K mg fs cs im 19 f_below := by
  obtain ⟨fd, F⟩ := c.def_ 19 (d := Hd.d_below) rfl
  exact ⟨"below", _, fd, ["one", "other"], ["one", "other", "n", "mine", "its", "k", "m", "many"], _, _, _, _, _, rfl, He.glo_ok X G (c.fact 19 (f := .glo "below") rfl), F, bn_below F, sc_below, rfl, rfl, ck_below⟩
theorem sc_first_rising : FnScope ["turning", "n", "lengths", "i", "behind", "told", "place", "left", "least", "number", "j"] ["turning"] Hd.d_first_rising.scope := sc_ok (by decide +kernel)
theorem ck_first_rising : chkSs b_first_rising ⟨["turning", "n", "lengths", "i", "behind", "told", "place", "left", "least", "number", "j"], Hd.d_first_rising.scope, none, fs, cs, im⟩ Hd.d_first_rising.body = true := by decide +kernel
theorem bn_first_rising {f : Addr} {fd : FuncData} (F : FunD K Hd.d_first_rising.name Hd.d_first_rising.qual Hd.d_first_rising.params Hd.d_first_rising.body Hd.d_first_rising.scope [] [] f fd) : Binds K fd ["turning"] [] := F.bindsN fun _ _ _ _ _ _ us hl => match us, hl with | [_], _ => rfl
include c X G in
theorem ok_first_rising : DefOk prog w K mg fs cs im 20 f_first_rising := by
  obtain ⟨fd, F⟩ := c.def_ 20 (d := Hd.d_first_rising) rfl
  exact ⟨"first_rising", _, fd, ["turning"], ["turning", "n", "lengths", "i", "behind", "told", "place", "left", "least", "number", "j"], _, _, _, _, _, rfl, He.glo_ok X G (c.fact 20 (f := .glo "first_rising") rfl), F, bn_first_rising F, sc_first_rising, rfl, rfl, ck_first_rising⟩
theorem sc_rises : FnScope ["turning"] ["turning"] Hd.d_rises.scope := sc_ok (by decide +kernel)
theorem ck_rises : chkSs b_rises ⟨["turning"], Hd.d_rises.scope, none, fs, cs, im⟩ Hd.d_rises.body = true := by decide +kernel
theorem bn_rises {f : Addr} {fd : FuncData} (F : FunD K Hd.d_rises.name Hd.d_rises.qual Hd.d_rises.params Hd.d_rises.body Hd.d_rises.scope [] [] f fd) : Binds K fd ["turning"] [] := F.bindsN fun _ _ _ _ _ _ us hl => match us, hl with | [_], _ => rfl
include c X G in
theorem ok_rises : DefOk prog w K mg fs cs im 21 f_rises := by
  obtain ⟨fd, F⟩ := c.def_ 21 (d := Hd.d_rises) rfl
  exact ⟨"rises", _, fd, ["turning"], ["turning"], _, _, _, _, _, rfl, He.glo_ok X G (c.fact 21 (f := .glo "rises") rfl), F, bn_rises F, sc_rises, rfl, rfl, ck_rises⟩
theorem sc_is_row : FnScope ["thing", "turning", "way", "places", "number", "one", "other"] ["thing", "turning", "way"] Hd.d_is_row.scope := sc_ok (by decide +kernel)
theorem ck_is_row : chkSs b_is_row ⟨["thing", "turning", "way", "places", "number", "one", "other"], Hd.d_is_row.scope, none, fs, cs, im⟩ Hd.d_is_row.body = true := by decide +kernel
theorem bn_is_row {f : Addr} {fd : FuncData} (F : FunD K Hd.d_is_row.name Hd.d_is_row.qual Hd.d_is_row.params Hd.d_is_row.body Hd.d_is_row.scope [] [] f fd) : Binds K fd ["thing", "turning", "way"] [] := F.bindsN fun _ _ _ _ _ _ us hl => match us, hl with | [_, _, _], _ => rfl
include c X G in
theorem ok_is_row : DefOk prog w K mg fs cs im 22 f_is_row := by
  obtain ⟨fd, F⟩ := c.def_ 22 (d := Hd.d_is_row) rfl
  exact ⟨"is_row", _, fd, ["thing", "turning", "way"], ["thing", "turning", "way", "places", "number", "one", "other"], _, _, _, _, _, rfl, He.glo_ok X G (c.fact 22 (f := .glo "is_row") rfl), F, bn_is_row F, sc_is_row, rfl, rfl, ck_is_row⟩
theorem sc_is_rises : FnScope ["paper", "turning", "falls", "firsts", "row", "number"] ["paper", "turning"] Hd.d_is_rises.scope := sc_ok (by decide +kernel)
theorem ck_is_rises : chkSs b_is_rises ⟨["paper", "turning", "falls", "firsts", "row", "number"], Hd.d_is_rises.scope, none, fs, cs, im⟩ Hd.d_is_rises.body = true := by decide +kernel
theorem bn_is_rises {f : Addr} {fd : FuncData} (F : FunD K Hd.d_is_rises.name Hd.d_is_rises.qual Hd.d_is_rises.params Hd.d_is_rises.body Hd.d_is_rises.scope [] [] f fd) : Binds K fd ["paper", "turning"] [] := F.bindsN fun _ _ _ _ _ _ us hl => match us, hl with | [_, _], _ => rfl
include c X G in
theorem ok_is_rises : DefOk prog w K mg fs cs im 23 f_is_rises := by
  obtain ⟨fd, F⟩ := c.def_ 23 (d := Hd.d_is_rises) rfl
  exact ⟨"is_rises", _, fd, ["paper", "turning"], ["paper", "turning", "falls", "firsts", "row", "number"], _, _, _, _, _, rfl, He.glo_ok X G (c.fact 23 (f := .glo "is_rises") rfl), F, bn_is_rises F, sc_is_rises, rfl, rfl, ck_is_rises⟩
theorem sc__law_cell : FnScope ["script", "k"] ["script", "k"] Hd.d__law_cell.scope := sc_ok (by decide +kernel)
theorem ck__law_cell : chkSs b__law_cell ⟨["script", "k"], Hd.d__law_cell.scope, none, fs, cs, im⟩ Hd.d__law_cell.body = true := by decide +kernel
theorem bn__law_cell {f : Addr} {fd : FuncData} (F : FunD K Hd.d__law_cell.name Hd.d__law_cell.qual Hd.d__law_cell.params Hd.d__law_cell.body Hd.d__law_cell.scope [] [] f fd) : Binds K fd ["script", "k"] [] := F.bindsN fun _ _ _ _ _ _ us hl => match us, hl with | [_, _], _ => rfl
include c X G in
theorem ok__law_cell : DefOk prog w K mg fs cs im 24 f__law_cell := by
  obtain ⟨fd, F⟩ := c.def_ 24 (d := Hd.d__law_cell) rfl
  exact ⟨"_law_cell", _, fd, ["script", "k"], ["script", "k"], _, _, _, _, _, rfl, He.glo_ok X G (c.fact 24 (f := .glo "_law_cell") rfl), F, bn__law_cell F, sc__law_cell, rfl, rfl, ck__law_cell⟩
theorem sc__law_digits : FnScope ["script", "first", "last", "digits", "k", "cell", "turn", "seed"] ["script", "first", "last"] Hd.d__law_digits.scope := sc_ok (by decide +kernel)
theorem ck__law_digits : chkSs b__law_digits ⟨["script", "first", "last", "digits", "k", "cell", "turn", "seed"], Hd.d__law_digits.scope, none, fs, cs, im⟩ Hd.d__law_digits.body = true := by decide +kernel
theorem bn__law_digits {f : Addr} {fd : FuncData} (F : FunD K Hd.d__law_digits.name Hd.d__law_digits.qual Hd.d__law_digits.params Hd.d__law_digits.body Hd.d__law_digits.scope [] [] f fd) : Binds K fd ["script", "first", "last"] [] := F.bindsN fun _ _ _ _ _ _ us hl => match us, hl with | [_, _, _], _ => rfl
include c X G in
theorem ok__law_digits : DefOk prog w K mg fs cs im 25 f__law_digits := by
  obtain ⟨fd, F⟩ := c.def_ 25 (d := Hd.d__law_digits) rfl
  exact ⟨"_law_digits", _, fd, ["script", "first", "last"], ["script", "first", "last", "digits", "k", "cell", "turn", "seed"], _, _, _, _, _, rfl, He.glo_ok X G (c.fact 25 (f := .glo "_law_digits") rfl), F, bn__law_digits F, sc__law_digits, rfl, rfl, ck__law_digits⟩
theorem sc__law_draw : FnScope ["box", "many", "at"] ["box", "many"] Hd.d__law_draw.scope := sc_ok (by decide +kernel)
theorem ck__law_draw : chkSs b__law_draw ⟨["box", "many", "at"], Hd.d__law_draw.scope, none, fs, cs, im⟩ Hd.d__law_draw.body = true := by decide +kernel
theorem bn__law_draw {f : Addr} {fd : FuncData} (F : FunD K Hd.d__law_draw.name Hd.d__law_draw.qual Hd.d__law_draw.params Hd.d__law_draw.body Hd.d__law_draw.scope [] [] f fd) : Binds K fd ["box", "many"] [] := F.bindsN fun _ _ _ _ _ _ us hl => match us, hl with | [_, _], _ => rfl
include c X G in
theorem ok__law_draw : DefOk prog w K mg fs cs im 26 f__law_draw := by
  obtain ⟨fd, F⟩ := c.def_ 26 (d := Hd.d__law_draw) rfl
  exact ⟨"_law_draw", _, fd, ["box", "many"], ["box", "many", "at"], _, _, _, _, _, rfl, He.glo_ok X G (c.fact 26 (f := .glo "_law_draw") rfl), F, bn__law_draw F, sc__law_draw, rfl, rfl, ck__law_draw⟩
theorem sc__law_pick : FnScope ["box", "things"] ["box", "things"] Hd.d__law_pick.scope := sc_ok (by decide +kernel)
theorem ck__law_pick : chkSs b__law_pick ⟨["box", "things"], Hd.d__law_pick.scope, none, fs, cs, im⟩ Hd.d__law_pick.body = true := by decide +kernel
theorem bn__law_pick {f : Addr} {fd : FuncData} (F : FunD K Hd.d__law_pick.name Hd.d__law_pick.qual Hd.d__law_pick.params Hd.d__law_pick.body Hd.d__law_pick.scope [] [] f fd) : Binds K fd ["box", "things"] [] := F.bindsN fun _ _ _ _ _ _ us hl => match us, hl with | [_, _], _ => rfl
include c X G in
theorem ok__law_pick : DefOk prog w K mg fs cs im 27 f__law_pick := by
  obtain ⟨fd, F⟩ := c.def_ 27 (d := Hd.d__law_pick) rfl
  exact ⟨"_law_pick", _, fd, ["box", "things"], ["box", "things"], _, _, _, _, _, rfl, He.glo_ok X G (c.fact 27 (f := .glo "_law_pick") rfl), F, bn__law_pick F, sc__law_pick, rfl, rfl, ck__law_pick⟩
theorem sc__law_like : FnScope ["told", "due", "k"] ["told", "due"] Hd.d__law_like.scope := sc_ok (by decide +kernel)
theorem ck__law_like : chkSs b__law_like ⟨["told", "due", "k"], Hd.d__law_like.scope, none, fs, cs, im⟩ Hd.d__law_like.body = true := by decide +kernel
theorem bn__law_like {f : Addr} {fd : FuncData} (F : FunD K Hd.d__law_like.name Hd.d__law_like.qual Hd.d__law_like.params Hd.d__law_like.body Hd.d__law_like.scope [] [] f fd) : Binds K fd ["told", "due"] [] := F.bindsN fun _ _ _ _ _ _ us hl => match us, hl with | [_, _], _ => rfl
include c X G in
theorem ok__law_like : DefOk prog w K mg fs cs im 28 f__law_like := by
  obtain ⟨fd, F⟩ := c.def_ 28 (d := Hd.d__law_like) rfl
  exact ⟨"_law_like", _, fd, ["told", "due"], ["told", "due", "k"], _, _, _, _, _, rfl, He.glo_ok X G (c.fact 28 (f := .glo "_law_like") rfl), F, bn__law_like F, sc__law_like, rfl, rfl, ck__law_like⟩
theorem sc__law_turning : FnScope ["box", "n", "left", "found", "k", "j"] ["box", "n"] Hd.d__law_turning.scope := sc_ok (by decide +kernel)
theorem ck__law_turning : chkSs b__law_turning ⟨["box", "n", "left", "found", "k", "j"], Hd.d__law_turning.scope, none, fs, cs, im⟩ Hd.d__law_turning.body = true := by decide +kernel
theorem bn__law_turning {f : Addr} {fd : FuncData} (F : FunD K Hd.d__law_turning.name Hd.d__law_turning.qual Hd.d__law_turning.params Hd.d__law_turning.body Hd.d__law_turning.scope [] [] f fd) : Binds K fd ["box", "n"] [] := F.bindsN fun _ _ _ _ _ _ us hl => match us, hl with | [_, _], _ => rfl
include c X G in
theorem ok__law_turning : DefOk prog w K mg fs cs im 29 f__law_turning := by
  obtain ⟨fd, F⟩ := c.def_ 29 (d := Hd.d__law_turning) rfl
  exact ⟨"_law_turning", _, fd, ["box", "n"], ["box", "n", "left", "found", "k", "j"], _, _, _, _, _, rfl, He.glo_ok X G (c.fact 29 (f := .glo "_law_turning") rfl), F, bn__law_turning F, sc__law_turning, rfl, rfl, ck__law_turning⟩
theorem sc__law_back : FnScope ["one", "found", "point"] ["one"] Hd.d__law_back.scope := sc_ok (by decide +kernel)
theorem ck__law_back : chkSs b__law_back ⟨["one", "found", "point"], Hd.d__law_back.scope, none, fs, cs, im⟩ Hd.d__law_back.body = true := by decide +kernel
theorem bn__law_back {f : Addr} {fd : FuncData} (F : FunD K Hd.d__law_back.name Hd.d__law_back.qual Hd.d__law_back.params Hd.d__law_back.body Hd.d__law_back.scope [] [] f fd) : Binds K fd ["one"] [] := F.bindsN fun _ _ _ _ _ _ us hl => match us, hl with | [_], _ => rfl
include c X G in
theorem ok__law_back : DefOk prog w K mg fs cs im 30 f__law_back := by
  obtain ⟨fd, F⟩ := c.def_ 30 (d := Hd.d__law_back) rfl
  exact ⟨"_law_back", _, fd, ["one"], ["one", "found", "point"], _, _, _, _, _, rfl, He.glo_ok X G (c.fact 30 (f := .glo "_law_back") rfl), F, bn__law_back F, sc__law_back, rfl, rfl, ck__law_back⟩
theorem sc__law_all : FnScope ["n", "found", "turn", "longer", "row", "point"] ["n"] Hd.d__law_all.scope := sc_ok (by decide +kernel)
theorem ck__law_all : chkSs b__law_all ⟨["n", "found", "turn", "longer", "row", "point"], Hd.d__law_all.scope, none, fs, cs, im⟩ Hd.d__law_all.body = true := by decide +kernel
theorem bn__law_all {f : Addr} {fd : FuncData} (F : FunD K Hd.d__law_all.name Hd.d__law_all.qual Hd.d__law_all.params Hd.d__law_all.body Hd.d__law_all.scope [] [] f fd) : Binds K fd ["n"] [] := F.bindsN fun _ _ _ _ _ _ us hl => match us, hl with | [_], _ => rfl
include c X G in
theorem ok__law_all : DefOk prog w K mg fs cs im 31 f__law_all := by
  obtain ⟨fd, F⟩ := c.def_ 31 (d := Hd.d__law_all) rfl
  exact ⟨"_law_all", _, fd, ["n"], ["n", "found", "turn", "longer", "row", "point"], _, _, _, _, _, rfl, He.glo_ok X G (c.fact 31 (f := .glo "_law_all") rfl), F, bn__law_all F, sc__law_all, rfl, rfl, ck__law_all⟩
theorem sc__law_inversions : FnScope ["one", "found", "i", "j"] ["one"] Hd.d__law_inversions.scope := sc_ok (by decide +kernel)
theorem ck__law_inversions : chkSs b__law_inversions ⟨["one", "found", "i", "j"], Hd.d__law_inversions.scope, none, fs, cs, im⟩ Hd.d__law_inversions.body = true := by decide +kernel
theorem bn__law_inversions {f : Addr} {fd : FuncData} (F : FunD K Hd.d__law_inversions.name Hd.d__law_inversions.qual Hd.d__law_inversions.params Hd.d__law_inversions.body Hd.d__law_inversions.scope [] [] f fd) : Binds K fd ["one"] [] := F.bindsN fun _ _ _ _ _ _ us hl => match us, hl with | [_], _ => rfl
include c X G in
theorem ok__law_inversions : DefOk prog w K mg fs cs im 32 f__law_inversions := by
  obtain ⟨fd, F⟩ := c.def_ 32 (d := Hd.d__law_inversions) rfl
  exact ⟨"_law_inversions", _, fd, ["one"], ["one", "found", "i", "j"], _, _, _, _, _, rfl, He.glo_ok X G (c.fact 32 (f := .glo "_law_inversions") rfl), F, bn__law_inversions F, sc__law_inversions, rfl, rfl, ck__law_inversions⟩
theorem sc__law_exchanged : FnScope ["one", "k"] ["one", "k"] Hd.d__law_exchanged.scope := sc_ok (by decide +kernel)
theorem ck__law_exchanged : chkSs b__law_exchanged ⟨["one", "k"], Hd.d__law_exchanged.scope, none, fs, cs, im⟩ Hd.d__law_exchanged.body = true := by decide +kernel
theorem bn__law_exchanged {f : Addr} {fd : FuncData} (F : FunD K Hd.d__law_exchanged.name Hd.d__law_exchanged.qual Hd.d__law_exchanged.params Hd.d__law_exchanged.body Hd.d__law_exchanged.scope [] [] f fd) : Binds K fd ["one", "k"] [] := F.bindsN fun _ _ _ _ _ _ us hl => match us, hl with | [_, _], _ => rfl
include c X G in
theorem ok__law_exchanged : DefOk prog w K mg fs cs im 33 f__law_exchanged := by
  obtain ⟨fd, F⟩ := c.def_ 33 (d := Hd.d__law_exchanged) rfl
  exact ⟨"_law_exchanged", _, fd, ["one", "k"], ["one", "k"], _, _, _, _, _, rfl, He.glo_ok X G (c.fact 33 (f := .glo "_law_exchanged") rfl), F, bn__law_exchanged F, sc__law_exchanged, rfl, rfl, ck__law_exchanged⟩
theorem sc__law_sortings : FnScope ["n", "found", "size", "one", "best", "many", "k", "row", "count", "turning"] ["n"] Hd.d__law_sortings.scope := sc_ok (by decide +kernel)
theorem ck__law_sortings : chkSs b__law_sortings ⟨["n", "found", "size", "one", "best", "many", "k", "row", "count", "turning"], Hd.d__law_sortings.scope, none, fs, cs, im⟩ Hd.d__law_sortings.body = true := by decide +kernel
theorem bn__law_sortings {f : Addr} {fd : FuncData} (F : FunD K Hd.d__law_sortings.name Hd.d__law_sortings.qual Hd.d__law_sortings.params Hd.d__law_sortings.body Hd.d__law_sortings.scope [] [] f fd) : Binds K fd ["n"] [] := F.bindsN fun _ _ _ _ _ _ us hl => match us, hl with | [_], _ => rfl
include c X G in
theorem ok__law_sortings : DefOk prog w K mg fs cs im 34 f__law_sortings := by
  obtain ⟨fd, F⟩ := c.def_ 34 (d := Hd.d__law_sortings) rfl
  exact ⟨"_law_sortings", _, fd, ["n"], ["n", "found", "size", "one", "best", "many", "k", "row", "count", "turning"], _, _, _, _, _, rfl, He.glo_ok X G (c.fact 34 (f := .glo "_law_sortings") rfl), F, bn__law_sortings F, sc__law_sortings, rfl, rfl, ck__law_sortings⟩
theorem sc__law_many : FnScope ["one"] ["one"] Hd.d__law_many.scope := sc_ok (by decide +kernel)
theorem ck__law_many : chkSs b__law_many ⟨["one"], Hd.d__law_many.scope, none, fs, cs, im⟩ Hd.d__law_many.body = true := by decide +kernel
theorem bn__law_many {f : Addr} {fd : FuncData} (F : FunD K Hd.d__law_many.name Hd.d__law_many.qual Hd.d__law_many.params Hd.d__law_many.body Hd.d__law_many.scope [] [] f fd) : Binds K fd ["one"] [] := F.bindsN fun _ _ _ _ _ _ us hl => match us, hl with | [_], _ => rfl
include c X G in
theorem ok__law_many : DefOk prog w K mg fs cs im 35 f__law_many := by
  obtain ⟨fd, F⟩ := c.def_ 35 (d := Hd.d__law_many) rfl
  exact ⟨"_law_many", _, fd, ["one"], ["one"], _, _, _, _, _, rfl, He.glo_ok X G (c.fact 35 (f := .glo "_law_many") rfl), F, bn__law_many F, sc__law_many, rfl, rfl, ck__law_many⟩
theorem sc__law_below : FnScope ["one", "other", "n", "k", "m", "number"] ["one", "other"] Hd.d__law_below.scope := sc_ok (by decide +kernel)
theorem ck__law_below : chkSs b__law_below ⟨["one", "other", "n", "k", "m", "number"], Hd.d__law_below.scope, none, fs, cs, im⟩ Hd.d__law_below.body = true := by decide +kernel
theorem bn__law_below {f : Addr} {fd : FuncData} (F : FunD K Hd.d__law_below.name Hd.d__law_below.qual Hd.d__law_below.params Hd.d__law_below.body Hd.d__law_below.scope [] [] f fd) : Binds K fd ["one", "other"] [] := F.bindsN fun _ _ _ _ _ _ us hl => match us, hl with | [_, _], _ => rfl
include c X G in
theorem ok__law_below : DefOk prog w K mg fs cs im 36 f__law_below := by
  obtain ⟨fd, F⟩ := c.def_ 36 (d := Hd.d__law_below) rfl
  exact ⟨"_law_below", _, fd, ["one", "other"], ["one", "other", "n", "k", "m", "number"], _, _, _, _, _, rfl, He.glo_ok X G (c.fact 36 (f := .glo "_law_below") rfl), F, bn__law_below F, sc__law_below, rfl, rfl, ck__law_below⟩
theorem sc__law_rising : FnScope ["one", "found", "number", "row"] ["one"] Hd.d__law_rising.scope := sc_ok (by decide +kernel)
theorem ck__law_rising : chkSs b__law_rising ⟨["one", "found", "number", "row"], Hd.d__law_rising.scope, none, fs, cs, im⟩ Hd.d__law_rising.body = true := by decide +kernel
theorem bn__law_rising {f : Addr} {fd : FuncData} (F : FunD K Hd.d__law_rising.name Hd.d__law_rising.qual Hd.d__law_rising.params Hd.d__law_rising.body Hd.d__law_rising.scope [] [] f fd) : Binds K fd ["one"] [] := F.bindsN fun _ _ _ _ _ _ us hl => match us, hl with | [_], _ => rfl
include c X G in
theorem ok__law_rising : DefOk prog w K mg fs cs im 37 f__law_rising := by
  obtain ⟨fd, F⟩ := c.def_ 37 (d := Hd.d__law_rising) rfl
  exact ⟨"_law_rising", _, fd, ["one"], ["one", "found", "number", "row"], _, _, _, _, _, rfl, He.glo_ok X G (c.fact 37 (f := .glo "_law_rising") rfl), F, bn__law_rising F, sc__law_rising, rfl, rfl, ck__law_rising⟩
theorem sc__law_rises_right : FnScope ["one", "paper", "word", "row", "falls", "numbers", "fall"] ["one", "paper"] Hd.d__law_rises_right.scope := sc_ok (by decide +kernel)
theorem ck__law_rises_right : chkSs b__law_rises_right ⟨["one", "paper", "word", "row", "falls", "numbers", "fall"], Hd.d__law_rises_right.scope, none, fs, cs, im⟩ Hd.d__law_rises_right.body = true := by decide +kernel
theorem bn__law_rises_right {f : Addr} {fd : FuncData} (F : FunD K Hd.d__law_rises_right.name Hd.d__law_rises_right.qual Hd.d__law_rises_right.params Hd.d__law_rises_right.body Hd.d__law_rises_right.scope [] [] f fd) : Binds K fd ["one", "paper"] [] := F.bindsN fun _ _ _ _ _ _ us hl => match us, hl with | [_, _], _ => rfl
include c X G in
theorem ok__law_rises_right : DefOk prog w K mg fs cs im 38 f__law_rises_right := by
  obtain ⟨fd, F⟩ := c.def_ 38 (d := Hd.d__law_rises_right) rfl
  exact ⟨"_law_rises_right", _, fd, ["one", "paper"], ["one", "paper", "word", "row", "falls", "numbers", "fall"], _, _, _, _, _, rfl, He.glo_ok X G (c.fact 38 (f := .glo "_law_rises_right") rfl), F, bn__law_rises_right F, sc__law_rises_right, rfl, rfl, ck__law_rises_right⟩
theorem sc__law_tableaus : FnScope ["one", "p", "q", "step", "number", "at", "greater", "k", "row"] ["one"] Hd.d__law_tableaus.scope := sc_ok (by decide +kernel)
theorem ck__law_tableaus : chkSs b__law_tableaus ⟨["one", "p", "q", "step", "number", "at", "greater", "k", "row"], Hd.d__law_tableaus.scope, none, fs, cs, im⟩ Hd.d__law_tableaus.body = true := by decide +kernel
theorem bn__law_tableaus {f : Addr} {fd : FuncData} (F : FunD K Hd.d__law_tableaus.name Hd.d__law_tableaus.qual Hd.d__law_tableaus.params Hd.d__law_tableaus.body Hd.d__law_tableaus.scope [] [] f fd) : Binds K fd ["one"] [] := F.bindsN fun _ _ _ _ _ _ us hl => match us, hl with | [_], _ => rfl
include c X G in
theorem ok__law_tableaus : DefOk prog w K mg fs cs im 39 f__law_tableaus := by
  obtain ⟨fd, F⟩ := c.def_ 39 (d := Hd.d__law_tableaus) rfl
  exact ⟨"_law_tableaus", _, fd, ["one"], ["one", "p", "q", "step", "number", "at", "greater", "k", "row"], _, _, _, _, _, rfl, He.glo_ok X G (c.fact 39 (f := .glo "_law_tableaus") rfl), F, bn__law_tableaus F, sc__law_tableaus, rfl, rfl, ck__law_tableaus⟩
theorem sc__law_heaps : FnScope ["one", "found", "number", "free", "k", "heap"] ["one"] Hd.d__law_heaps.scope := sc_ok (by decide +kernel)
theorem ck__law_heaps : chkSs b__law_heaps ⟨["one", "found", "number", "free", "k", "heap"], Hd.d__law_heaps.scope, none, fs, cs, im⟩ Hd.d__law_heaps.body = true := by decide +kernel
theorem bn__law_heaps {f : Addr} {fd : FuncData} (F : FunD K Hd.d__law_heaps.name Hd.d__law_heaps.qual Hd.d__law_heaps.params Hd.d__law_heaps.body Hd.d__law_heaps.scope [] [] f fd) : Binds K fd ["one"] [] := F.bindsN fun _ _ _ _ _ _ us hl => match us, hl with | [_], _ => rfl
include c X G in
theorem ok__law_heaps : DefOk prog w K mg fs cs im 40 f__law_heaps := by
  obtain ⟨fd, F⟩ := c.def_ 40 (d := Hd.d__law_heaps) rfl
  exact ⟨"_law_heaps", _, fd, ["one"], ["one", "found", "number", "free", "k", "heap"], _, _, _, _, _, rfl, He.glo_ok X G (c.fact 40 (f := .glo "_law_heaps") rfl), F, bn__law_heaps F, sc__law_heaps, rfl, rfl, ck__law_heaps⟩
theorem sc__law_together : FnScope ["one", "n", "found", "sets", "number", "falls", "i", "row", "fall", "size", "longest"] ["one"] Hd.d__law_together.scope := sc_ok (by decide +kernel)
theorem ck__law_together : chkSs b__law_together ⟨["one", "n", "found", "sets", "number", "falls", "i", "row", "fall", "size", "longest"], Hd.d__law_together.scope, none, fs, cs, im⟩ Hd.d__law_together.body = true := by decide +kernel
theorem bn__law_together {f : Addr} {fd : FuncData} (F : FunD K Hd.d__law_together.name Hd.d__law_together.qual Hd.d__law_together.params Hd.d__law_together.body Hd.d__law_together.scope [] [] f fd) : Binds K fd ["one"] [] := F.bindsN fun _ _ _ _ _ _ us hl => match us, hl with | [_], _ => rfl
include c X G in
theorem ok__law_together : DefOk prog w K mg fs cs im 41 f__law_together := by
  obtain ⟨fd, F⟩ := c.def_ 41 (d := Hd.d__law_together) rfl
  exact ⟨"_law_together", _, fd, ["one"], ["one", "n", "found", "sets", "number", "falls", "i", "row", "fall", "size", "longest"], _, _, _, _, _, rfl, He.glo_ok X G (c.fact 41 (f := .glo "_law_together") rfl), F, bn__law_together F, sc__law_together, rfl, rfl, ck__law_together⟩
theorem sc__law_shapes : FnScope ["n", "most", "rows", "found", "row", "left", "last", "size"] ["n", "most"] Hd.d__law_shapes.scope := sc_ok (by decide +kernel)
theorem ck__law_shapes : chkSs b__law_shapes ⟨["n", "most", "rows", "found", "row", "left", "last", "size"], Hd.d__law_shapes.scope, none, fs, cs, im⟩ Hd.d__law_shapes.body = true := by decide +kernel
theorem bn__law_shapes {f : Addr} {fd : FuncData} (F : FunD K Hd.d__law_shapes.name Hd.d__law_shapes.qual Hd.d__law_shapes.params Hd.d__law_shapes.body Hd.d__law_shapes.scope [] [] f fd) : Binds K fd ["n", "most"] [] := F.bindsN fun _ _ _ _ _ _ us hl => match us, hl with | [_, _], _ => rfl
include c X G in
theorem ok__law_shapes : DefOk prog w K mg fs cs im 42 f__law_shapes := by
  obtain ⟨fd, F⟩ := c.def_ 42 (d := Hd.d__law_shapes) rfl
  exact ⟨"_law_shapes", _, fd, ["n", "most"], ["n", "most", "rows", "found", "row", "left", "last", "size"], _, _, _, _, _, rfl, He.glo_ok X G (c.fact 42 (f := .glo "_law_shapes") rfl), F, bn__law_shapes F, sc__law_shapes, rfl, rfl, ck__law_shapes⟩
theorem sc__law_fillings : FnScope ["shape", "n", "product", "hooks", "k", "i", "j", "size"] ["shape"] Hd.d__law_fillings.scope := sc_ok (by decide +kernel)
theorem ck__law_fillings : chkSs b__law_fillings ⟨["shape", "n", "product", "hooks", "k", "i", "j", "size"], Hd.d__law_fillings.scope, none, fs, cs, im⟩ Hd.d__law_fillings.body = true := by decide +kernel
theorem bn__law_fillings {f : Addr} {fd : FuncData} (F : FunD K Hd.d__law_fillings.name Hd.d__law_fillings.qual Hd.d__law_fillings.params Hd.d__law_fillings.body Hd.d__law_fillings.scope [] [] f fd) : Binds K fd ["shape"] [] := F.bindsN fun _ _ _ _ _ _ us hl => match us, hl with | [_], _ => rfl
include c X G in
theorem ok__law_fillings : DefOk prog w K mg fs cs im 43 f__law_fillings := by
  obtain ⟨fd, F⟩ := c.def_ 43 (d := Hd.d__law_fillings) rfl
  exact ⟨"_law_fillings", _, fd, ["shape"], ["shape", "n", "product", "hooks", "k", "i", "j", "size"], _, _, _, _, _, rfl, He.glo_ok X G (c.fact 43 (f := .glo "_law_fillings") rfl), F, bn__law_fillings F, sc__law_fillings, rfl, rfl, ck__law_fillings⟩
theorem sc__law_shapes_right : FnScope ["box", "n", "rows", "product", "k", "shape", "row"] ["box"] Hd.d__law_shapes_right.scope := sc_ok (by decide +kernel)
theorem ck__law_shapes_right : chkSs b__law_shapes_right ⟨["box", "n", "rows", "product", "k", "shape", "row"], Hd.d__law_shapes_right.scope, none, fs, cs, im⟩ Hd.d__law_shapes_right.body = true := by decide +kernel
theorem bn__law_shapes_right {f : Addr} {fd : FuncData} (F : FunD K Hd.d__law_shapes_right.name Hd.d__law_shapes_right.qual Hd.d__law_shapes_right.params Hd.d__law_shapes_right.body Hd.d__law_shapes_right.scope [] [] f fd) : Binds K fd ["box"] [] := F.bindsN fun _ _ _ _ _ _ us hl => match us, hl with | [_], _ => rfl
include c X G in
theorem ok__law_shapes_right : DefOk prog w K mg fs cs im 44 f__law_shapes_right := by
  obtain ⟨fd, F⟩ := c.def_ 44 (d := Hd.d__law_shapes_right) rfl
  exact ⟨"_law_shapes_right", _, fd, ["box"], ["box", "n", "rows", "product", "k", "shape", "row"], _, _, _, _, _, rfl, He.glo_ok X G (c.fact 44 (f := .glo "_law_shapes_right") rfl), F, bn__law_shapes_right F, sc__law_shapes_right, rfl, rfl, ck__law_shapes_right⟩
theorem sc_law : FnScope ["script", "box", "n", "one", "other", "rows", "numbers", "found", "told", "best", "first", "bad", "p", "q", "sums", "due", "row", "place", "pair", "k"] ["script"] Hd.d_law.scope := sc_ok (by decide +kernel)
theorem ck_law : chkSs b_law ⟨["script", "box", "n", "one", "other", "rows", "numbers", "found", "told", "best", "first", "bad", "p", "q", "sums", "due", "row", "place", "pair", "k"], Hd.d_law.scope, none, fs, cs, im⟩ Hd.d_law.body = true := by decide +kernel
theorem bn_law {f : Addr} {fd : FuncData} (F : FunD K Hd.d_law.name Hd.d_law.qual Hd.d_law.params Hd.d_law.body Hd.d_law.scope [] [] f fd) : Binds K fd ["script"] [] := F.bindsN fun _ _ _ _ _ _ us hl => match us, hl with | [_], _ => rfl
include c X G in
theorem ok_law : DefOk prog w K mg fs cs im 45 f_law := by
  obtain ⟨fd, F⟩ := c.def_ 45 (d := Hd.d_law) rfl
  exact ⟨"law", _, fd, ["script"], ["script", "box", "n", "one", "other", "rows", "numbers", "found", "told", "best", "first", "bad", "p", "q", "sums", "due", "row", "place", "pair", "k"], _, _, _, _, _, rfl, He.glo_ok X G (c.fact 45 (f := .glo "law") rfl), F, bn_law F, sc_law, rfl, rfl, ck_law⟩
include c X G in
theorem nth_chain : ∀ i fn, nth P i = some fn → DefOk prog w K mg fs cs im i fn := by
  intro i fn e
  match i, e with
  | 0, e => cases (show some f_is_whole = some fn from e); exact ok_is_whole c X G
  | 1, e => cases (show some f_is_form = some fn from e); exact ok_is_form c X G
  | 2, e => cases (show some f_first_greater = some fn from e); exact ok_first_greater c X G
  | 3, e => cases (show some f_tableaus = some fn from e); exact ok_tableaus c X G
  | 4, e => cases (show some f_turning_back = some fn from e); exact ok_turning_back c X G
  | 5, e => cases (show some f_is_shape = some fn from e); exact ok_is_shape c X G
  | 6, e => cases (show some f_how_many_fillings = some fn from e); exact ok_how_many_fillings c X G
  | 7, e => cases (show some f_shapes = some fn from e); exact ok_shapes c X G
  | 8, e => cases (show some f_heaps = some fn from e); exact ok_heaps c X G
  | 9, e => cases (show some f_greene = some fn from e); exact ok_greene c X G
  | 10, e => cases (show some f_inversions = some fn from e); exact ok_inversions c X G
  | 11, e => cases (show some f_length = some fn from e); exact ok_length c X G
  | 12, e => cases (show some f_descents = some fn from e); exact ok_descents c X G
  | 13, e => cases (show some f_code = some fn from e); exact ok_code c X G
  | 14, e => cases (show some f_of_code = some fn from e); exact ok_of_code c X G
  | 15, e => cases (show some f_exchanged = some fn from e); exact ok_exchanged c X G
  | 16, e => cases (show some f_sorting = some fn from e); exact ok_sorting c X G
  | 17, e => cases (show some f_sorted_by = some fn from e); exact ok_sorted_by c X G
  | 18, e => cases (show some f_how_many_sortings = some fn from e); exact ok_how_many_sortings c X G
  | 19, e => cases (show some f_below = some fn from e); exact ok_below c X G
  | 20, e => cases (show some f_first_rising = some fn from e); exact ok_first_rising c X G
  | 21, e => cases (show some f_rises = some fn from e); exact ok_rises c X G
  | 22, e => cases (show some f_is_row = some fn from e); exact ok_is_row c X G
  | 23, e => cases (show some f_is_rises = some fn from e); exact ok_is_rises c X G
  | 24, e => cases (show some f__law_cell = some fn from e); exact ok__law_cell c X G
  | 25, e => cases (show some f__law_digits = some fn from e); exact ok__law_digits c X G
  | 26, e => cases (show some f__law_draw = some fn from e); exact ok__law_draw c X G
  | 27, e => cases (show some f__law_pick = some fn from e); exact ok__law_pick c X G
  | 28, e => cases (show some f__law_like = some fn from e); exact ok__law_like c X G
  | 29, e => cases (show some f__law_turning = some fn from e); exact ok__law_turning c X G
  | 30, e => cases (show some f__law_back = some fn from e); exact ok__law_back c X G
  | 31, e => cases (show some f__law_all = some fn from e); exact ok__law_all c X G
  | 32, e => cases (show some f__law_inversions = some fn from e); exact ok__law_inversions c X G
  | 33, e => cases (show some f__law_exchanged = some fn from e); exact ok__law_exchanged c X G
  | 34, e => cases (show some f__law_sortings = some fn from e); exact ok__law_sortings c X G
  | 35, e => cases (show some f__law_many = some fn from e); exact ok__law_many c X G
  | 36, e => cases (show some f__law_below = some fn from e); exact ok__law_below c X G
  | 37, e => cases (show some f__law_rising = some fn from e); exact ok__law_rising c X G
  | 38, e => cases (show some f__law_rises_right = some fn from e); exact ok__law_rises_right c X G
  | 39, e => cases (show some f__law_tableaus = some fn from e); exact ok__law_tableaus c X G
  | 40, e => cases (show some f__law_heaps = some fn from e); exact ok__law_heaps c X G
  | 41, e => cases (show some f__law_together = some fn from e); exact ok__law_together c X G
  | 42, e => cases (show some f__law_shapes = some fn from e); exact ok__law_shapes c X G
  | 43, e => cases (show some f__law_fillings = some fn from e); exact ok__law_fillings c X G
  | 44, e => cases (show some f__law_shapes_right = some fn from e); exact ok__law_shapes_right c X G
  | 45, e => cases (show some f_law = some fn from e); exact ok_law c X G
  | i + 46, e => exact absurd (show none = some fn from e) (by simp)
include c ci X G in
theorem prg : PrgOk prog w K mg P fs cs im where
  len := rfl
  defs := fun i fn e => by
    have := nth_chain (prog := prog) (w := w) c X G i fn e
    exact this
  con := fun p hp => by
    cases hp
  blt := fun b hb => by
    cases b <;> first | (exact absurd hb Bool.false_ne_true) | skip
    · exact He.free_ok X G (c.fact 51 (f := .free "len") rfl)
    · exact He.free_ok X G (c.fact 55 (f := .free "range") rfl)
    · exact He.free_ok X G (c.fact 60 (f := .free "tuple") rfl)
    · exact He.free_ok X G (c.fact 52 (f := .free "list") rfl)
    · exact He.free_ok X G (c.fact 62 (f := .free "set") rfl)
    · exact He.free_ok X G (c.fact 63 (f := .free "dict") rfl)
    · exact He.free_ok X G (c.fact 57 (f := .free "sorted") rfl)
    · exact He.free_ok X G (c.fact 54 (f := .free "min") rfl)
    · exact He.free_ok X G (c.fact 53 (f := .free "max") rfl)
    · exact He.free_ok X G (c.fact 59 (f := .free "sum") rfl)
    · exact He.free_ok X G (c.fact 64 (f := .free "abs") rfl)
    · exact He.free_ok X G (c.fact 49 (f := .free "int") rfl)
    · exact He.free_ok X G (c.fact 58 (f := .free "str") rfl)
    · exact He.free_ok X G (c.fact 48 (f := .free "enumerate") rfl)
    · exact He.free_ok X G (c.fact 61 (f := .free "zip") rfl)
    · exact He.free_ok X G (c.fact 56 (f := .free "reversed") rfl)
    · exact He.free_ok X G (c.fact 46 (f := .free "all") rfl)
    · exact He.free_ok X G (c.fact 65 (f := .free "any") rfl)
    · exact He.free_ok X G (c.fact 66 (f := .free "ord") rfl)
  imp := fun b f hb hf => by
    cases b <;> first | (exact absurd hb (by decide)) | (cases hf; done) | skip
    · cases hf; exact Ev.ims_ok X G ci 0 rfl
  isi := He.free_ok X G (c.fact 50 (f := .free "isinstance") rfl)
  ty := fun t => by
    cases t
    · exact He.free_ok X G (c.fact 49 (f := .free "int") rfl)
    · exact He.free_ok X G (c.fact 58 (f := .free "str") rfl)
    · exact He.free_ok X G (c.fact 60 (f := .free "tuple") rfl)
    · exact He.free_ok X G (c.fact 47 (f := .free "bool") rfl)
    · exact He.free_ok X G (c.fact 52 (f := .free "list") rfl)
end
end Lw
end

section
set_option autoImplicit false
set_option Elab.async false
set_option linter.all false
set_option maxRecDepth 100000
namespace Lw
open Ev
open PySem (Str)
def lev : Nat := 229
def fuel : Nat := 300
def As : List S := [nthS b_law 3, nthS b_law 4, nthS b_law 5, nthS b_law 6, nthS b_law 7, nthS b_law 8]
def Cs : List S := [nthS b_law 10, nthS b_law 11, nthS b_law 12, nthS b_law 13, nthS b_law 14, nthS b_law 15, nthS b_law 16, nthS b_law 17, nthS b_law 18, nthS b_law 19, nthS b_law 20, nthS b_law 21]
def envA (s : D) (n : Nat) (one o : D) : Env := [some s, some (.ref 1), some (.int n), some one, some o, none, none, none, none, none, none, none, none, none, none, none, none, none, none, none]
def obsC (r : R Env) : Bool × Option D × Option D × Sto := match r with
  | .ok e st => (true, e.get 1, e.get 3, st.take 2)
  | _ => (false, none, none, [])
def obsA (n : Nat) (p : List Int) (s o : D) (ds : List Int) (k : Nat) : Bool × Env × Nat × Sto × (Bool × Option D × Option D × Sto) := match runS (evR P fuel 20) As (envA s n (tp p) o) (Bx ds k []) with
  | .ok e st => (true, e.take 5, e.length, st.take 2, obsC (runS (evR P fuel 20) Cs e st))
  | _ => (false, [], 0, [], (false, none, none, []))
def Ts (n : Nat) : List (List Int) := picks n (iota n)
def envB (s : D) (n : Nat) (one o : D) (x5 x6 x7 x8 x9 x10 x11 x12 x13 x14 x15 x16 x17 x18 x19 : Option D) : Env := [some s, some (.ref 1), some (.int n), some one, some o, x5, x6, x7, x8, x9, x10, x11, x12, x13, x14, x15, x16, x17, x18, x19]
end Lw
end

section
set_option autoImplicit false
set_option Elab.async false
set_option linter.all false
set_option maxRecDepth 100000
namespace Lw
open Ev
open PySem (Str)
theorem a1 (s o : D) (ds : List Int) (k : Nat) : (Ts 1).map (fun p => obsA 1 p s o ds k) = (Ts 1).map fun p => (true, [some s, some (.ref 1), some (.int (1 : Nat)), some (tp p), some o], 20, Bx ds k [], (true, some (.ref 1), some (tp p), Bx ds k [])) := by kernel_rfl
theorem a2 (s o : D) (ds : List Int) (k : Nat) : (Ts 2).map (fun p => obsA 2 p s o ds k) = (Ts 2).map fun p => (true, [some s, some (.ref 1), some (.int (2 : Nat)), some (tp p), some o], 20, Bx ds k [], (true, some (.ref 1), some (tp p), Bx ds k [])) := by kernel_rfl
theorem a3 (s o : D) (ds : List Int) (k : Nat) : (Ts 3).map (fun p => obsA 3 p s o ds k) = (Ts 3).map fun p => (true, [some s, some (.ref 1), some (.int (3 : Nat)), some (tp p), some o], 20, Bx ds k [], (true, some (.ref 1), some (tp p), Bx ds k [])) := by kernel_rfl
theorem a4_0 (s o : D) (ds : List Int) (k : Nat) : (((Ts 4).drop 0).take 4).map (fun p => obsA 4 p s o ds k) = (((Ts 4).drop 0).take 4).map fun p => (true, [some s, some (.ref 1), some (.int (4 : Nat)), some (tp p), some o], 20, Bx ds k [], (true, some (.ref 1), some (tp p), Bx ds k [])) := by kernel_rfl
theorem a4_1 (s o : D) (ds : List Int) (k : Nat) : (((Ts 4).drop 4).take 4).map (fun p => obsA 4 p s o ds k) = (((Ts 4).drop 4).take 4).map fun p => (true, [some s, some (.ref 1), some (.int (4 : Nat)), some (tp p), some o], 20, Bx ds k [], (true, some (.ref 1), some (tp p), Bx ds k [])) := by kernel_rfl
theorem a4_2 (s o : D) (ds : List Int) (k : Nat) : (((Ts 4).drop 8).take 4).map (fun p => obsA 4 p s o ds k) = (((Ts 4).drop 8).take 4).map fun p => (true, [some s, some (.ref 1), some (.int (4 : Nat)), some (tp p), some o], 20, Bx ds k [], (true, some (.ref 1), some (tp p), Bx ds k [])) := by kernel_rfl
theorem a4_3 (s o : D) (ds : List Int) (k : Nat) : (((Ts 4).drop 12).take 4).map (fun p => obsA 4 p s o ds k) = (((Ts 4).drop 12).take 4).map fun p => (true, [some s, some (.ref 1), some (.int (4 : Nat)), some (tp p), some o], 20, Bx ds k [], (true, some (.ref 1), some (tp p), Bx ds k [])) := by kernel_rfl
theorem a4_4 (s o : D) (ds : List Int) (k : Nat) : (((Ts 4).drop 16).take 4).map (fun p => obsA 4 p s o ds k) = (((Ts 4).drop 16).take 4).map fun p => (true, [some s, some (.ref 1), some (.int (4 : Nat)), some (tp p), some o], 20, Bx ds k [], (true, some (.ref 1), some (tp p), Bx ds k [])) := by kernel_rfl
theorem a4_5 (s o : D) (ds : List Int) (k : Nat) : (((Ts 4).drop 20).take 4).map (fun p => obsA 4 p s o ds k) = (((Ts 4).drop 20).take 4).map fun p => (true, [some s, some (.ref 1), some (.int (4 : Nat)), some (tp p), some o], 20, Bx ds k [], (true, some (.ref 1), some (tp p), Bx ds k [])) := by kernel_rfl
theorem split4 (p : List Int) (hp : p ∈ Ts 4) (m k : Nat) (h : m * k = 24) (hm : 0 < m) : ∃ i, i < k ∧ p ∈ ((Ts 4).drop (m * i)).take m := by
  obtain ⟨j, hj⟩ := List.getElem?_of_mem hp
  have hl : (Ts 4).length = 24 := rfl
  have hjl : j < 24 := by
    have := (List.getElem?_eq_some_iff.mp hj).1
    omega
  have h1 : j < k * m := by rw [Nat.mul_comm, h]; exact hjl
  have h2 := Nat.mod_lt j hm
  have h3 := Nat.mod_add_div j m
  refine ⟨j / m, Nat.div_lt_of_lt_mul (by rw [Nat.mul_comm] at h1; exact h1), List.mem_of_getElem? (i := j % m) ?_⟩
  rw [List.getElem?_take_of_lt h2, List.getElem?_drop, show m * (j / m) + j % m = j by omega]
  exact hj
theorem a4 (s o : D) (ds : List Int) (k : Nat) (p : List Int) (hp : p ∈ Ts 4) : obsA 4 p s o ds k = (true, [some s, some (.ref 1), some (.int (4 : Nat)), some (tp p), some o], 20, Bx ds k [], (true, some (.ref 1), some (tp p), Bx ds k [])) := by
  obtain ⟨i, hi, h⟩ := split4 p hp 4 6 rfl (by decide)
  match i, hi, h with
  | 0, _, h => exact List.map_inj_left.mp (a4_0 s o ds k) p h
  | 1, _, h => exact List.map_inj_left.mp (a4_1 s o ds k) p h
  | 2, _, h => exact List.map_inj_left.mp (a4_2 s o ds k) p h
  | 3, _, h => exact List.map_inj_left.mp (a4_3 s o ds k) p h
  | 4, _, h => exact List.map_inj_left.mp (a4_4 s o ds k) p h
  | 5, _, h => exact List.map_inj_left.mp (a4_5 s o ds k) p h
end Lw
end

section
set_option autoImplicit false
set_option Elab.async false
set_option linter.all false
set_option maxRecDepth 100000
namespace Lw
open Ev
open PySem (Str)
theorem b1 (s : D) (x5 x6 x7 x8 x9 x10 x11 x12 x13 x14 x15 x16 x17 x18 x19 : Option D) (ds : List Int) (k : Nat) (J : Sto) : (Ts 1).map (fun p => (Ts 1).map fun q => (evR P fuel 20).s (nthS b_law 9) (envB s 1 (tp p) (tp q) x5 x6 x7 x8 x9 x10 x11 x12 x13 x14 x15 x16 x17 x18 x19) (Bx ds k J)) = (Ts 1).map fun p => (Ts 1).map fun q => .ok (.nx (envB s 1 (tp p) (tp q) x5 x6 x7 x8 x9 x10 x11 x12 x13 x14 x15 x16 x17 x18 x19)) (Bx ds k J) := by kernel_rfl
theorem b2 (s : D) (x5 x6 x7 x8 x9 x10 x11 x12 x13 x14 x15 x16 x17 x18 x19 : Option D) (ds : List Int) (k : Nat) (J : Sto) : (Ts 2).map (fun p => (Ts 2).map fun q => (evR P fuel 20).s (nthS b_law 9) (envB s 2 (tp p) (tp q) x5 x6 x7 x8 x9 x10 x11 x12 x13 x14 x15 x16 x17 x18 x19) (Bx ds k J)) = (Ts 2).map fun p => (Ts 2).map fun q => .ok (.nx (envB s 2 (tp p) (tp q) x5 x6 x7 x8 x9 x10 x11 x12 x13 x14 x15 x16 x17 x18 x19)) (Bx ds k J) := by kernel_rfl
theorem b3 (s : D) (x5 x6 x7 x8 x9 x10 x11 x12 x13 x14 x15 x16 x17 x18 x19 : Option D) (ds : List Int) (k : Nat) (J : Sto) : (Ts 3).map (fun p => (Ts 3).map fun q => (evR P fuel 20).s (nthS b_law 9) (envB s 3 (tp p) (tp q) x5 x6 x7 x8 x9 x10 x11 x12 x13 x14 x15 x16 x17 x18 x19) (Bx ds k J)) = (Ts 3).map fun p => (Ts 3).map fun q => .ok (.nx (envB s 3 (tp p) (tp q) x5 x6 x7 x8 x9 x10 x11 x12 x13 x14 x15 x16 x17 x18 x19)) (Bx ds k J) := by kernel_rfl
theorem b4_0 (s : D) (x5 x6 x7 x8 x9 x10 x11 x12 x13 x14 x15 x16 x17 x18 x19 : Option D) (ds : List Int) (k : Nat) (J : Sto) : (((Ts 4).drop 0).take 2).map (fun p => (Ts 4).map fun q => (evR P fuel 20).s (nthS b_law 9) (envB s 4 (tp p) (tp q) x5 x6 x7 x8 x9 x10 x11 x12 x13 x14 x15 x16 x17 x18 x19) (Bx ds k J)) = (((Ts 4).drop 0).take 2).map fun p => (Ts 4).map fun q => .ok (.nx (envB s 4 (tp p) (tp q) x5 x6 x7 x8 x9 x10 x11 x12 x13 x14 x15 x16 x17 x18 x19)) (Bx ds k J) := by kernel_rfl
theorem b4_1 (s : D) (x5 x6 x7 x8 x9 x10 x11 x12 x13 x14 x15 x16 x17 x18 x19 : Option D) (ds : List Int) (k : Nat) (J : Sto) : (((Ts 4).drop 2).take 2).map (fun p => (Ts 4).map fun q => (evR P fuel 20).s (nthS b_law 9) (envB s 4 (tp p) (tp q) x5 x6 x7 x8 x9 x10 x11 x12 x13 x14 x15 x16 x17 x18 x19) (Bx ds k J)) = (((Ts 4).drop 2).take 2).map fun p => (Ts 4).map fun q => .ok (.nx (envB s 4 (tp p) (tp q) x5 x6 x7 x8 x9 x10 x11 x12 x13 x14 x15 x16 x17 x18 x19)) (Bx ds k J) := by kernel_rfl
theorem b4_2 (s : D) (x5 x6 x7 x8 x9 x10 x11 x12 x13 x14 x15 x16 x17 x18 x19 : Option D) (ds : List Int) (k : Nat) (J : Sto) : (((Ts 4).drop 4).take 2).map (fun p => (Ts 4).map fun q => (evR P fuel 20).s (nthS b_law 9) (envB s 4 (tp p) (tp q) x5 x6 x7 x8 x9 x10 x11 x12 x13 x14 x15 x16 x17 x18 x19) (Bx ds k J)) = (((Ts 4).drop 4).take 2).map fun p => (Ts 4).map fun q => .ok (.nx (envB s 4 (tp p) (tp q) x5 x6 x7 x8 x9 x10 x11 x12 x13 x14 x15 x16 x17 x18 x19)) (Bx ds k J) := by kernel_rfl
theorem b4_3 (s : D) (x5 x6 x7 x8 x9 x10 x11 x12 x13 x14 x15 x16 x17 x18 x19 : Option D) (ds : List Int) (k : Nat) (J : Sto) : (((Ts 4).drop 6).take 2).map (fun p => (Ts 4).map fun q => (evR P fuel 20).s (nthS b_law 9) (envB s 4 (tp p) (tp q) x5 x6 x7 x8 x9 x10 x11 x12 x13 x14 x15 x16 x17 x18 x19) (Bx ds k J)) = (((Ts 4).drop 6).take 2).map fun p => (Ts 4).map fun q => .ok (.nx (envB s 4 (tp p) (tp q) x5 x6 x7 x8 x9 x10 x11 x12 x13 x14 x15 x16 x17 x18 x19)) (Bx ds k J) := by kernel_rfl
theorem b4_4 (s : D) (x5 x6 x7 x8 x9 x10 x11 x12 x13 x14 x15 x16 x17 x18 x19 : Option D) (ds : List Int) (k : Nat) (J : Sto) : (((Ts 4).drop 8).take 2).map (fun p => (Ts 4).map fun q => (evR P fuel 20).s (nthS b_law 9) (envB s 4 (tp p) (tp q) x5 x6 x7 x8 x9 x10 x11 x12 x13 x14 x15 x16 x17 x18 x19) (Bx ds k J)) = (((Ts 4).drop 8).take 2).map fun p => (Ts 4).map fun q => .ok (.nx (envB s 4 (tp p) (tp q) x5 x6 x7 x8 x9 x10 x11 x12 x13 x14 x15 x16 x17 x18 x19)) (Bx ds k J) := by kernel_rfl
theorem b4_5 (s : D) (x5 x6 x7 x8 x9 x10 x11 x12 x13 x14 x15 x16 x17 x18 x19 : Option D) (ds : List Int) (k : Nat) (J : Sto) : (((Ts 4).drop 10).take 2).map (fun p => (Ts 4).map fun q => (evR P fuel 20).s (nthS b_law 9) (envB s 4 (tp p) (tp q) x5 x6 x7 x8 x9 x10 x11 x12 x13 x14 x15 x16 x17 x18 x19) (Bx ds k J)) = (((Ts 4).drop 10).take 2).map fun p => (Ts 4).map fun q => .ok (.nx (envB s 4 (tp p) (tp q) x5 x6 x7 x8 x9 x10 x11 x12 x13 x14 x15 x16 x17 x18 x19)) (Bx ds k J) := by kernel_rfl
theorem b4_6 (s : D) (x5 x6 x7 x8 x9 x10 x11 x12 x13 x14 x15 x16 x17 x18 x19 : Option D) (ds : List Int) (k : Nat) (J : Sto) : (((Ts 4).drop 12).take 2).map (fun p => (Ts 4).map fun q => (evR P fuel 20).s (nthS b_law 9) (envB s 4 (tp p) (tp q) x5 x6 x7 x8 x9 x10 x11 x12 x13 x14 x15 x16 x17 x18 x19) (Bx ds k J)) = (((Ts 4).drop 12).take 2).map fun p => (Ts 4).map fun q => .ok (.nx (envB s 4 (tp p) (tp q) x5 x6 x7 x8 x9 x10 x11 x12 x13 x14 x15 x16 x17 x18 x19)) (Bx ds k J) := by kernel_rfl
theorem b4_7 (s : D) (x5 x6 x7 x8 x9 x10 x11 x12 x13 x14 x15 x16 x17 x18 x19 : Option D) (ds : List Int) (k : Nat) (J : Sto) : (((Ts 4).drop 14).take 2).map (fun p => (Ts 4).map fun q => (evR P fuel 20).s (nthS b_law 9) (envB s 4 (tp p) (tp q) x5 x6 x7 x8 x9 x10 x11 x12 x13 x14 x15 x16 x17 x18 x19) (Bx ds k J)) = (((Ts 4).drop 14).take 2).map fun p => (Ts 4).map fun q => .ok (.nx (envB s 4 (tp p) (tp q) x5 x6 x7 x8 x9 x10 x11 x12 x13 x14 x15 x16 x17 x18 x19)) (Bx ds k J) := by kernel_rfl
theorem b4_8 (s : D) (x5 x6 x7 x8 x9 x10 x11 x12 x13 x14 x15 x16 x17 x18 x19 : Option D) (ds : List Int) (k : Nat) (J : Sto) : (((Ts 4).drop 16).take 2).map (fun p => (Ts 4).map fun q => (evR P fuel 20).s (nthS b_law 9) (envB s 4 (tp p) (tp q) x5 x6 x7 x8 x9 x10 x11 x12 x13 x14 x15 x16 x17 x18 x19) (Bx ds k J)) = (((Ts 4).drop 16).take 2).map fun p => (Ts 4).map fun q => .ok (.nx (envB s 4 (tp p) (tp q) x5 x6 x7 x8 x9 x10 x11 x12 x13 x14 x15 x16 x17 x18 x19)) (Bx ds k J) := by kernel_rfl
theorem b4_9 (s : D) (x5 x6 x7 x8 x9 x10 x11 x12 x13 x14 x15 x16 x17 x18 x19 : Option D) (ds : List Int) (k : Nat) (J : Sto) : (((Ts 4).drop 18).take 2).map (fun p => (Ts 4).map fun q => (evR P fuel 20).s (nthS b_law 9) (envB s 4 (tp p) (tp q) x5 x6 x7 x8 x9 x10 x11 x12 x13 x14 x15 x16 x17 x18 x19) (Bx ds k J)) = (((Ts 4).drop 18).take 2).map fun p => (Ts 4).map fun q => .ok (.nx (envB s 4 (tp p) (tp q) x5 x6 x7 x8 x9 x10 x11 x12 x13 x14 x15 x16 x17 x18 x19)) (Bx ds k J) := by kernel_rfl
theorem b4_10 (s : D) (x5 x6 x7 x8 x9 x10 x11 x12 x13 x14 x15 x16 x17 x18 x19 : Option D) (ds : List Int) (k : Nat) (J : Sto) : (((Ts 4).drop 20).take 2).map (fun p => (Ts 4).map fun q => (evR P fuel 20).s (nthS b_law 9) (envB s 4 (tp p) (tp q) x5 x6 x7 x8 x9 x10 x11 x12 x13 x14 x15 x16 x17 x18 x19) (Bx ds k J)) = (((Ts 4).drop 20).take 2).map fun p => (Ts 4).map fun q => .ok (.nx (envB s 4 (tp p) (tp q) x5 x6 x7 x8 x9 x10 x11 x12 x13 x14 x15 x16 x17 x18 x19)) (Bx ds k J) := by kernel_rfl
theorem b4_11 (s : D) (x5 x6 x7 x8 x9 x10 x11 x12 x13 x14 x15 x16 x17 x18 x19 : Option D) (ds : List Int) (k : Nat) (J : Sto) : (((Ts 4).drop 22).take 2).map (fun p => (Ts 4).map fun q => (evR P fuel 20).s (nthS b_law 9) (envB s 4 (tp p) (tp q) x5 x6 x7 x8 x9 x10 x11 x12 x13 x14 x15 x16 x17 x18 x19) (Bx ds k J)) = (((Ts 4).drop 22).take 2).map fun p => (Ts 4).map fun q => .ok (.nx (envB s 4 (tp p) (tp q) x5 x6 x7 x8 x9 x10 x11 x12 x13 x14 x15 x16 x17 x18 x19)) (Bx ds k J) := by kernel_rfl
theorem b4 (s : D) (x5 x6 x7 x8 x9 x10 x11 x12 x13 x14 x15 x16 x17 x18 x19 : Option D) (ds : List Int) (k : Nat) (J : Sto) (p q : List Int) (hp : p ∈ Ts 4) (hq : q ∈ Ts 4) : (evR P fuel 20).s (nthS b_law 9) (envB s 4 (tp p) (tp q) x5 x6 x7 x8 x9 x10 x11 x12 x13 x14 x15 x16 x17 x18 x19) (Bx ds k J) = .ok (.nx (envB s 4 (tp p) (tp q) x5 x6 x7 x8 x9 x10 x11 x12 x13 x14 x15 x16 x17 x18 x19)) (Bx ds k J) := by
  obtain ⟨i, hi, h⟩ := split4 p hp 2 12 rfl (by decide)
  match i, hi, h with
  | 0, _, h => exact List.map_inj_left.mp (List.map_inj_left.mp (b4_0 s x5 x6 x7 x8 x9 x10 x11 x12 x13 x14 x15 x16 x17 x18 x19 ds k J) p h) q hq
  | 1, _, h => exact List.map_inj_left.mp (List.map_inj_left.mp (b4_1 s x5 x6 x7 x8 x9 x10 x11 x12 x13 x14 x15 x16 x17 x18 x19 ds k J) p h) q hq
  | 2, _, h => exact List.map_inj_left.mp (List.map_inj_left.mp (b4_2 s x5 x6 x7 x8 x9 x10 x11 x12 x13 x14 x15 x16 x17 x18 x19 ds k J) p h) q hq
  | 3, _, h => exact List.map_inj_left.mp (List.map_inj_left.mp (b4_3 s x5 x6 x7 x8 x9 x10 x11 x12 x13 x14 x15 x16 x17 x18 x19 ds k J) p h) q hq
  | 4, _, h => exact List.map_inj_left.mp (List.map_inj_left.mp (b4_4 s x5 x6 x7 x8 x9 x10 x11 x12 x13 x14 x15 x16 x17 x18 x19 ds k J) p h) q hq
  | 5, _, h => exact List.map_inj_left.mp (List.map_inj_left.mp (b4_5 s x5 x6 x7 x8 x9 x10 x11 x12 x13 x14 x15 x16 x17 x18 x19 ds k J) p h) q hq
  | 6, _, h => exact List.map_inj_left.mp (List.map_inj_left.mp (b4_6 s x5 x6 x7 x8 x9 x10 x11 x12 x13 x14 x15 x16 x17 x18 x19 ds k J) p h) q hq
  | 7, _, h => exact List.map_inj_left.mp (List.map_inj_left.mp (b4_7 s x5 x6 x7 x8 x9 x10 x11 x12 x13 x14 x15 x16 x17 x18 x19 ds k J) p h) q hq
  | 8, _, h => exact List.map_inj_left.mp (List.map_inj_left.mp (b4_8 s x5 x6 x7 x8 x9 x10 x11 x12 x13 x14 x15 x16 x17 x18 x19 ds k J) p h) q hq
  | 9, _, h => exact List.map_inj_left.mp (List.map_inj_left.mp (b4_9 s x5 x6 x7 x8 x9 x10 x11 x12 x13 x14 x15 x16 x17 x18 x19 ds k J) p h) q hq
  | 10, _, h => exact List.map_inj_left.mp (List.map_inj_left.mp (b4_10 s x5 x6 x7 x8 x9 x10 x11 x12 x13 x14 x15 x16 x17 x18 x19 ds k J) p h) q hq
  | 11, _, h => exact List.map_inj_left.mp (List.map_inj_left.mp (b4_11 s x5 x6 x7 x8 x9 x10 x11 x12 x13 x14 x15 x16 x17 x18 x19 ds k J) p h) q hq
end Lw
end

section
set_option autoImplicit false
set_option Elab.async false
set_option linter.all false
set_option maxRecDepth 100000
namespace Lw
open Ev
open PySem (Str)

def sb (i : Nat) : S := nthS b__law_shapes_right i
def rowsOf (n : Nat) : List D := match callF P (evR P fuel 20) 42 [.int n, .int n] [] with
  | .ok _ (.lst xs :: _) => xs
  | _ => []
def run1 (n : Nat) (ds : List Int) (k : Nat) : R Env := runS (evR P fuel 20) [sb 1, sb 2] [some (.ref 1), some (.int n), none, none, none, none, none] (Bx ds k [])
def obs1 (r : R Env) : Bool × Option D × Option D × Sto := match r with
  | .ok e st => (true, e.get 0, e.get 2, st.take 3)
  | _ => (false, none, none, [])
theorem r1 (ds : List Int) (k : Nat) : [1, 2, 3, 4, 5, 6, 7].map (fun n => obs1 (run1 n ds k)) = [1, 2, 3, 4, 5, 6, 7].map fun n => (true, some (.ref 1), some (.ref 2), Bx ds k [.lst (rowsOf n)]) := by kernel_rfl
def run2 (n : Nat) (ds : List Int) (k : Nat) (x : D) : R Env := runS (evR P fuel 20) [sb 4, sb 5] ((gE (run1 n ds k)).put 5 x) (Bx ds (k + 1) ((gS (run1 n ds k)).drop 2))
def obs2 (r : R Env) : Bool × Option D × Sto := match r with
  | .ok e st => (true, e.get 0, st.take 2)
  | _ => (false, none, [])
theorem r2 (ds : List Int) (k : Nat) : [1, 2, 3, 4, 5, 6, 7].map (fun n => (rowsOf n).map fun x => obs2 (run2 n ds k x)) = [1, 2, 3, 4, 5, 6, 7].map fun n => (rowsOf n).map fun x => (true, some (.ref 1), Bx ds (k + 1) []) := by kernel_rfl
theorem r3 : [1, 2, 3, 4, 5, 6, 7].all (fun n => D.lowL 0 (rowsOf n) && !(rowsOf n).isEmpty) = true := by kernel_rfl
def bads : List D := [.tup [], .tup [.int 0], .tup [.int 1, .int 2], .tup [.int 25], .tup [.int 3, .int (-1)], .non, .tup [.int 12, .int 13]]
theorem r4 : bads.map (fun x => callF P (evR P fuel 20) 5 [x] []) = bads.map fun x => .ok (.bl false) [] := by kernel_rfl
def bad2 : List D := [.non, .tup [], .tup [.str ⟨#[114, 105, 115, 101, 115]⟩], .int 5]
theorem r5 : [1, 2, 3, 4].map (fun n => (Ts n).map fun p => bad2.map fun x => callF P (evR P fuel 20) 23 [x, tp p] []) = [1, 2, 3, 4].map fun n => (Ts n).map fun p => bad2.map fun x => .ok (.bl false) [] := by kernel_rfl
end Lw
end

section
set_option autoImplicit false
set_option Elab.async false
set_option linter.all false
set_option maxRecDepth 100000
namespace Lw
open Ev
open PySem (Str)
theorem obs1_of {r : R Env} {a b : Option D} {s : Sto} (h : obs1 r = (true, a, b, s)) : ∃ e st, r = .ok e st ∧ e.get 0 = a ∧ e.get 2 = b ∧ st.take 3 = s := by
  cases r with
  | ok e st => simp only [obs1, Prod.mk.injEq] at h; exact ⟨e, st, rfl, h.2.1, h.2.2.1, h.2.2.2⟩
  | no => cases h
  | ex _ _ => cases h
theorem obs2_of {r : R Env} {a : Option D} {s : Sto} (h : obs2 r = (true, a, s)) : ∃ e st, r = .ok e st ∧ e.get 0 = a ∧ st.take 2 = s := by
  cases r with
  | ok e st => simp only [obs2, Prod.mk.injEq] at h; exact ⟨e, st, rfl, h.2.1, h.2.2⟩
  | no => cases h
  | ex _ _ => cases h
theorem sb_eq : b__law_shapes_right = .seq (sb 0) ([sb 1, sb 2].foldr .seq (.seq (sb 3) ([sb 4, sb 5].foldr .seq (.seq (sb 6) .skip)))) := rfl
def things (l : Nat) : List D := [.tup [], .tup [.int 0], .tup [.int 1, .int 2], .tup [.int 25], .tup [.int 3, .int (-1)], .ref l, .non, .tup [.int 12, .int 13]]
theorem shape_no (c : Nat) (ds : List Int) (k : Nat) (J : Sto) (l : Nat) (hl : J[l]? = some (.lst [.int 1])) (q : Nat) (hq : q < 8) : callF P (EL P (c + 20)) 5 [(things (l + 2))[q]] (Bx ds k J) = .ok (.bl false) (Bx ds k J) := by
  have low : ∀ x ∈ bads, callF P (EL P (c + 20)) 5 [x] (Bx ds k J) = .ok (.bl false) (Bx ds k J) := fun x hx => by
    have h := call_el (d := c + 20) (List.map_inj_left.mp r4 x hx) (fun z => by cases z) (by omega)
    refine call_st0 h ?_ rfl _
    have : bads.all (fun x => D.lowL 0 [x]) = true := rfl
    exact List.all_eq_true.mp this x hx
  have hll : l < J.length := (List.getElem?_eq_some_iff.mp hl).1
  rcases q with _ | _ | _ | _ | _ | _ | _ | _ | q
  · exact low _ (by simp [things, bads])
  · exact low _ (by simp [things, bads])
  · exact low _ (by simp [things, bads])
  · exact low _ (by simp [things, bads])
  · exact low _ (by simp [things, bads])
  · refine call_keepM (fn := f_is_shape) rfl rfl ?_ fun m hm => ?_
    · show D.lowL _ [D.ref (l + 2)] = true
      simp [D.lowL, D.low, bx_len]; omega
    · have hm : l + 2 < m := by simpa [things, D.lowL, D.low] using hm
      obtain ⟨p, rfl⟩ : ∃ p, m = p + 2 := ⟨m - 2, by omega⟩
      have ht : (Bx ds k J).take (p + 2) = Bx ds k (J.take p) := rfl
      have hg : sget (Bx ds k (J.take p)) (l + 2) = some (.lst [.int 1]) := by rw [bx_ix, List.getElem?_take_of_lt (by omega)]; exact hl
      rw [ht]
      show (EL P (c + 20)).s b_is_shape [some (.ref (l + 2)), none, none, none] (Bx ds k (J.take p)) = _
      unfold b_is_shape
      refine q_ifR (st1 := Bx ds k (J.take p)) ?_ (q_ret (v_cst _))
      simp only [lt_or, lt_not, lt_val, le_isi, le_var, get_0, okO_s, r_bind, isTy, hg, ofB_s, truth, Bool.not_false, if_true]
  · exact low _ (by simp [things, bads])
  · exact low _ (by simp [things, bads])
  · omega
theorem shapes_right (c : Nat) (ds : List Int) (k : Nat) (J : Sto) : ∃ k', callF P (EL P (c + 21)) 44 [.ref 1] (Bx ds k J) = .ok (.bl true) (Bx ds k' J) := by
  have hn : drawN ds k 7 + 1 ∈ [1, 2, 3, 4, 5, 6, 7] := by
    have := drawN_lt ds k (many := 7) (by decide)
    revert this
    generalize drawN ds k 7 = r
    intro h
    match r, h with
    | 0, _ => decide
    | 1, _ => decide
    | 2, _ => decide
    | 3, _ => decide
    | 4, _ => decide
    | 5, _ => decide
    | 6, _ => decide
  obtain ⟨e1, s1, h1, h10, h12, h1s⟩ := obs1_of (List.map_inj_left.mp (r1 ds (k + 1)) _ hn)
  have q1 := runS_el (d := c + 21) h1 (by intro z; cases z) (by omega)
  have hs1 : s1 = Bx ds (k + 1) (s1.drop 2) := by
    have := congrArg (·.take 2) h1s
    have h2 : s1.take 2 = Bx ds (k + 1) [] := by
      simp only [List.take_take] at this
      exact this
    conv => lhs; rw [← List.take_append_drop 2 s1, h2]
    rfl
  have hJ0 : (s1.drop 2)[0]? = some (.lst (rowsOf (drawN ds k 7 + 1))) := by
    have := congrArg (·[2]?) h1s
    rw [List.getElem?_drop]
    simpa [List.getElem?_take_of_lt, Bx] using this
  have hr3 := List.all_eq_true.mp r3 _ hn
  rw [Bool.and_eq_true] at hr3
  have hpos : 0 < (rowsOf (drawN ds k 7 + 1)).length := by
    have := hr3.2
    cases e : rowsOf (drawN ds k 7 + 1) with
    | nil => rw [e] at this; cases this
    | cons _ _ => simp
  have hp := pick_lst (P := P) (c := c + 19) (id := 26) (i := 27) (l := 0) rfl rfl (ds := ds) (k := k + 1) hJ0 hpos
  generalize hx : (rowsOf (drawN ds k 7 + 1))[drawN ds (k + 1) 900 % (rowsOf (drawN ds k 7 + 1)).length]'(Nat.mod_lt _ hpos) = x at hp
  have hxm : x ∈ rowsOf (drawN ds k 7 + 1) := hx ▸ List.getElem_mem _
  have hr2 := List.map_inj_left.mp (List.map_inj_left.mp (r2 ds (k + 1)) _ hn) x hxm
  obtain ⟨e2, s2, h2, h20, h2s⟩ := obs2_of hr2
  unfold run2 at h2
  rw [h1] at h2
  have h2 : runS (evR P fuel 20) [sb 4, sb 5] (e1.put 5 x) (Bx ds (k + 1 + 1) (s1.drop 2)) = .ok e2 s2 := h2
  have q2 := runS_el (d := c + 21) h2 (by intro z; cases z) (by omega)
  have hs2 : s2 = Bx ds (k + 1 + 1) (s2.drop 2) := by
    conv => lhs; rw [← List.take_append_drop 2 s2, h2s]
    rfl
  generalize s2.drop 2 = J2 at hs2
  refine ⟨k + 1 + 1 + 1, ?_⟩
  refine call_bx (fn := f__law_shapes_right) (vs := []) (G := J2 ++ [.lst [.int 1]] ++ [.lst (things (J2.length + 2))]) rfl rfl rfl rfl ?_
  show (EL P (c + 21)).s b__law_shapes_right [some (.ref 1), none, none, none, none, none, none] (Bx ds k []) = _
  rw [sb_eq]
  have e0 : (EL P (c + 21)).e (.bin .add (.cst (.int 1)) (.call 26 (.cons (.var 0) (.cons (.cst (.int 7)) .nil)))) [some (.ref 1), none, none, none, none, none, none] (Bx ds k []) = .ok (.int ((drawN ds k 7 + 1 : Nat) : Int)) (Bx ds (k + 1) []) := by
    have := v_add (v_cst (.int 1)) (drawX (P := P) (c := c + 20) (i := 26) (b := 0) (env := [some (.ref 1), none, none, none, none, none, none]) rfl (ds := ds) (k := k) (many := 7) (J := []) (by decide) rfl (v_cst (.int 7)))
    rw [this]
    simp; omega
  refine (q_asg e0).trans ?_
  show (EL P (c + 21)).s _ [some (.ref 1), some (.int ((drawN ds k 7 + 1 : Nat) : Int)), none, none, none, none, none] (Bx ds (k + 1) []) = _
  rw [runS_seq _ _ _ _ q1, hs1]
  refine (q_asg (d := x) (st' := Bx ds (k + 1 + 1) (s1.drop 2)) ?_).trans ?_
  · rw [le_call, les_cons, v_var h10, r_bind, les_cons, v_var h12, r_bind, les_nil, r_bind, r_bind, r_bind]
    exact hp
  rw [runS_seq _ _ _ _ q2, hs2]
  refine q_ret ?_
  have el : (EL P (c + 21)).e (.lst (.cons (.tup .nil) (.cons (.tup (.cons (.cst (.int 0)) .nil)) (.cons (.tup (.cons (.cst (.int 1)) (.cons (.cst (.int 2)) .nil))) (.cons (.tup (.cons (.cst (.int 25)) .nil)) (.cons (.tup (.cons (.cst (.int 3)) (.cons (.neg (.cst (.int 1))) .nil))) (.cons (.lst (.cons (.cst (.int 1)) .nil)) (.cons (.cst .non) (.cons (.tup (.cons (.cst (.int 12)) (.cons (.cst (.int 13)) .nil))) .nil))))))))) e2 (Bx ds (k + 1 + 1) J2) = .ok (.ref ((J2.length + 1) + 2)) (Bx ds (k + 1 + 1) (J2 ++ [.lst [.int 1]] ++ [.lst (things (J2.length + 2))])) := by
    simp [small, line, Nat.ble_eq, new, bx_len, bx_app, things]
  have hpk := pick_lst (P := P) (c := c + 19) (id := 26) (i := 27) (l := J2.length + 1) (J := J2 ++ [.lst [.int 1]] ++ [.lst (things (J2.length + 2))]) (xs := things (J2.length + 2)) rfl rfl (ds := ds) (k := k + 1 + 1) (by rw [List.getElem?_append_right (by simp)]; simp) (by simp [things])
  have hno := shape_no c ds (k + 1 + 1 + 1) (J2 ++ [.lst [.int 1]] ++ [.lst (things (J2.length + 2))]) J2.length (by simp) (drawN ds (k + 1 + 1) 900 % 8) (Nat.mod_lt _ (by decide))
  rw [le_cmp, le_call, les_cons, le_call, les_cons, v_var h20, r_bind, les_cons, el, r_bind, les_nil, r_bind, r_bind, r_bind, hpk, r_bind, les_nil, r_bind, r_bind]
  refine (congrArg (fun z => R.bind z _) hno).trans ?_
  rw [r_bind, le_cst, r_bind]
  rfl
end Lw
end

section
set_option autoImplicit false
set_option Elab.async false
set_option linter.all false
set_option maxRecDepth 100000
namespace Lw
open Ev
open PySem (Str)
theorem law_eq : b_law = .seq (nthS b_law 0) (.seq (nthS b_law 1) (.seq (nthS b_law 2) (As.foldr .seq (.seq (nthS b_law 9) (Cs.foldr .seq (.seq (nthS b_law 22) .skip)))))) := rfl
theorem obsA_of {n : Nat} {p : List Int} {s o : D} {ds : List Int} {k : Nat} (h : obsA n p s o ds k = (true, [some s, some (.ref 1), some (.int (n : Nat)), some (tp p), some o], 20, Bx ds k [], (true, some (.ref 1), some (tp p), Bx ds k []))) :
    ∃ x5 x6 x7 x8 x9 x10 x11 x12 x13 x14 x15 x16 x17 x18 x19 J e2 J2, runS (evR P fuel 20) As (envA s n (tp p) o) (Bx ds k []) = .ok (envB s n (tp p) o x5 x6 x7 x8 x9 x10 x11 x12 x13 x14 x15 x16 x17 x18 x19) (Bx ds k J) ∧ runS (evR P fuel 20) Cs (envB s n (tp p) o x5 x6 x7 x8 x9 x10 x11 x12 x13 x14 x15 x16 x17 x18 x19) (Bx ds k J) = .ok e2 (Bx ds k J2) ∧ e2.get 1 = some (.ref 1) ∧ e2.get 3 = some (tp p) := by
  unfold obsA at h
  cases e : runS (evR P fuel 20) As (envA s n (tp p) o) (Bx ds k []) with
  | no => rw [e] at h; cases h
  | ex _ _ => rw [e] at h; cases h
  | ok e1 s1 =>
    rw [e] at h
    simp only [Prod.mk.injEq, true_and] at h
    obtain ⟨h1, h2, h3, h4⟩ := h
    have hs1 : s1 = Bx ds k (s1.drop 2) := by
      conv => lhs; rw [← List.take_append_drop 2 s1, h3]
      rfl
    cases e2 : runS (evR P fuel 20) Cs e1 s1 with
    | no => rw [e2] at h4; cases h4
    | ex _ _ => rw [e2] at h4; cases h4
    | ok e3 s3 =>
      rw [e2] at h4
      simp only [obsC, Prod.mk.injEq, true_and] at h4
      obtain ⟨g1, g2, g3⟩ := h4
      have hs3 : s3 = Bx ds k (s3.drop 2) := by
        conv => lhs; rw [← List.take_append_drop 2 s3, g3]
        rfl
      match e1, h2 with
      | [y0, y1, y2, y3, y4, x5, x6, x7, x8, x9, x10, x11, x12, x13, x14, x15, x16, x17, x18, x19], _ =>
        simp only [List.take_succ_cons, List.take_zero, List.cons.injEq, and_true] at h1
        obtain ⟨rfl, rfl, rfl, rfl, rfl⟩ := h1
        refine ⟨x5, x6, x7, x8, x9, x10, x11, x12, x13, x14, x15, x16, x17, x18, x19, s1.drop 2, e3, s3.drop 2, ?_, ?_, g1, g2⟩
        · rw [← hs1]; rfl
        · rw [← hs1, ← hs3]; exact e2
theorem iota_len (n : Nat) : (iota n).length = n := by simp [iota]
theorem mid (c n : Nat) (hn : n ∈ [1, 2, 3, 4]) (s : D) (ds : List Int) (k : Nat) (p q : List Int) (hp : p ∈ Ts n) (hq : q ∈ Ts n) : ∃ e2 J, (EL P (c + 20)).s (As.foldr .seq (.seq (nthS b_law 9) (Cs.foldr .seq (.seq (nthS b_law 22) .skip)))) (envA s n (tp p) (tp q)) (Bx ds k []) = (EL P (c + 20)).s (.seq (nthS b_law 22) .skip) e2 (Bx ds k J) ∧ e2.get 1 = some (.ref 1) ∧ e2.get 3 = some (tp p) := by
  have hA : obsA n p s (tp q) ds k = (true, [some s, some (.ref 1), some (.int (n : Nat)), some (tp p), some (tp q)], 20, Bx ds k [], (true, some (.ref 1), some (tp p), Bx ds k [])) := by
    simp only [List.mem_cons, List.not_mem_nil, or_false] at hn
    rcases hn with rfl | rfl | rfl | rfl
    · exact List.map_inj_left.mp (a1 s (tp q) ds k) p hp
    · exact List.map_inj_left.mp (a2 s (tp q) ds k) p hp
    · exact List.map_inj_left.mp (a3 s (tp q) ds k) p hp
    · exact a4 s (tp q) ds k p hp
  obtain ⟨x5, x6, x7, x8, x9, x10, x11, x12, x13, x14, x15, x16, x17, x18, x19, J, e2, J2, hA1, hA2, g1, g2⟩ := obsA_of hA
  have hB : (evR P fuel 20).s (nthS b_law 9) (envB s n (tp p) (tp q) x5 x6 x7 x8 x9 x10 x11 x12 x13 x14 x15 x16 x17 x18 x19) (Bx ds k J) = .ok (.nx (envB s n (tp p) (tp q) x5 x6 x7 x8 x9 x10 x11 x12 x13 x14 x15 x16 x17 x18 x19)) (Bx ds k J) := by
    simp only [List.mem_cons, List.not_mem_nil, or_false] at hn
    rcases hn with rfl | rfl | rfl | rfl
    · exact List.map_inj_left.mp (List.map_inj_left.mp (b1 s x5 x6 x7 x8 x9 x10 x11 x12 x13 x14 x15 x16 x17 x18 x19 ds k J) p hp) q hq
    · exact List.map_inj_left.mp (List.map_inj_left.mp (b2 s x5 x6 x7 x8 x9 x10 x11 x12 x13 x14 x15 x16 x17 x18 x19 ds k J) p hp) q hq
    · exact List.map_inj_left.mp (List.map_inj_left.mp (b3 s x5 x6 x7 x8 x9 x10 x11 x12 x13 x14 x15 x16 x17 x18 x19 ds k J) p hp) q hq
    · exact b4 s x5 x6 x7 x8 x9 x10 x11 x12 x13 x14 x15 x16 x17 x18 x19 ds k J p q hp hq
  refine ⟨e2, J2, ?_, g1, g2⟩
  rw [runS_seq _ _ _ _ (runS_el (d := c + 20) hA1 (by intro z; cases z) (by omega)), q_seq (s_el (d := c + 20) hB (by intro z; cases z) (by omega)), runS_seq _ _ _ _ (runS_el (d := c + 20) hA2 (by intro z; cases z) (by omega))]
theorem last (c : Nat) (n : Nat) (hn : n ∈ [1, 2, 3, 4]) (ds : List Int) (k : Nat) (J : Sto) (p : List Int) (hp : p ∈ Ts n) (e2 : Env) (h1 : e2.get 1 = some (.ref 1)) (h3 : e2.get 3 = some (tp p)) : ∃ st', (EL P (c + 22)).s (.seq (nthS b_law 22) .skip) e2 (Bx ds k J) = .ok (.rt (.bl true)) st' := by
  have el : (EL P (c + 22)).e (.lst (.cons (.cst .non) (.cons (.tup .nil) (.cons (.tup (.cons (.cst (.str ⟨#[114, 105, 115, 101, 115]⟩)) .nil)) (.cons (.cst (.int 5)) .nil))))) e2 (Bx ds k J) = .ok (.ref (J.length + 2)) (Bx ds k (J ++ [.lst bad2])) := by
    simp [small, line, Nat.ble_eq, new, bx_len, bx_app, bad2]
  have hpk := pick_lst (P := P) (c := c + 20) (id := 26) (i := 27) (l := J.length) (J := J ++ [.lst bad2]) (xs := bad2) rfl rfl (ds := ds) (k := k) (by simp) (by decide)
  generalize hx : bad2[drawN ds k 900 % bad2.length]'(Nat.mod_lt _ (by decide)) = x at hpk
  have hxm : x ∈ bad2 := hx ▸ List.getElem_mem _
  have hno : callF P (EL P (c + 21)) 23 [x, tp p] (Bx ds (k + 1) (J ++ [.lst bad2])) = .ok (.bl false) (Bx ds (k + 1) (J ++ [.lst bad2])) := by
    have h := call_el (d := c + 21) (List.map_inj_left.mp (List.map_inj_left.mp (List.map_inj_left.mp r5 n hn) p hp) x hxm) (fun z => by cases z) (by omega)
    refine call_st0 h ?_ rfl _
    have hb : bad2.all (fun x => D.low 0 x) = true := rfl
    have := List.all_eq_true.mp hb x hxm
    show (D.low 0 x && (D.low 0 (tp p) && true)) = true
    rw [this, show D.low 0 (tp p) = true from low_ints 0 p]
    rfl
  obtain ⟨k', hsr⟩ := shapes_right c ds (k + 1) (J ++ [.lst bad2])
  refine ⟨Bx ds k' (J ++ [.lst bad2]), q_ret ?_⟩
  rw [le_and, le_cmp, le_call, les_cons, le_call, les_cons, v_var h1, r_bind, les_cons, el, r_bind, les_nil, r_bind, r_bind, r_bind, hpk, r_bind, les_cons, v_var h3, r_bind, les_nil, r_bind, r_bind, r_bind]
  rw [hno, r_bind, le_cst, r_bind, show ofB (Bx ds (k + 1) (J ++ [.lst bad2])) (cmpop .is_ (.bl false) (.bl false) (Bx ds (k + 1) (J ++ [.lst bad2]))) = .ok (.bl true) (Bx ds (k + 1) (J ++ [.lst bad2])) from rfl, r_bind]
  show (EL P (c + 21 + 1)).e (.call 44 (.cons (.var 1) .nil)) e2 _ = _
  rw [le_call, les_cons, v_var h1, r_bind, les_nil, r_bind, r_bind]
  exact hsr
theorem holds (ns : List Int) : ∃ st', callF P (EL P lev) 45 [.rol ns] [] = .ok (.bl true) st' := by
  obtain ⟨ds, hbx⟩ := box_made (P := P) (c := 227) (ic := 24) (i := 25) rfl rfl ns 0 (Env.new 20 [.rol ns]) rfl
  have hn : drawN ds 0 4 + 1 ∈ [1, 2, 3, 4] := by
    have := drawN_lt ds 0 (many := 4) (by decide)
    revert this
    generalize drawN ds 0 4 = r
    intro h
    match r, h with
    | 0, _ => decide
    | 1, _ => decide
    | 2, _ => decide
    | 3, _ => decide
  have e0 : (EL P 229).e (.bin .add (.cst (.int 1)) (.call 26 (.cons (.var 1) (.cons (.cst (.int 4)) .nil)))) [some (.rol ns), some (.ref 1), none, none, none, none, none, none, none, none, none, none, none, none, none, none, none, none, none, none] (Bx ds 0 []) = .ok (.int ((drawN ds 0 4 + 1 : Nat) : Int)) (Bx ds 1 []) := by
    have := v_add (v_cst (.int 1)) (drawX (P := P) (c := 228) (i := 26) (b := 1) (env := [some (.rol ns), some (.ref 1), none, none, none, none, none, none, none, none, none, none, none, none, none, none, none, none, none, none]) rfl (ds := ds) (k := 0) (many := 4) (J := []) (by decide) rfl (v_cst (.int 4)))
    rw [this]
    simp; omega
  generalize hN : drawN ds 0 4 + 1 = n at hn e0
  have hle : n ≤ 1000 := by
    simp only [List.mem_cons, List.not_mem_nil, or_false] at hn
    omega
  have hp := drawT_mem ds n 1 (iota n) (iota_len n)
  have hq := drawT_mem ds n (1 + n) (iota n) (iota_len n)
  have tx : ∀ (j : Nat) (env : Env), env.get 1 = some (.ref 1) → env.get 2 = some (.int n) → (EL P 229).e (.call 29 (.cons (.var 1) (.cons (.var 2) .nil))) env (Bx ds j []) = .ok (tp (drawT ds j n (iota n))) (Bx ds (j + n) []) := fun j env h1 h2 => by
    rw [show 229 = 228 + 1 from rfl, le_call, les_cons, v_var h1, r_bind, les_cons, v_var h2, r_bind, les_nil, r_bind, r_bind, r_bind]
    exact turning (c := 227) (id := 26) rfl rfl ds j n [] hle
  obtain ⟨e2, J, hm, h1, h3⟩ := mid 209 n hn (.rol ns) ds (1 + n + n) _ _ hp hq
  obtain ⟨st', hl⟩ := last 207 n hn ds (1 + n + n) J _ hp e2 h1 h3
  have hb : (EL P 229).s b_law (Env.new 20 [.rol ns]) [] = .ok (.rt (.bl true)) st' := by
    rw [law_eq]
    refine (q_asg hbx).trans ?_
    refine (q_asg e0).trans ?_
    refine (q_seq (env' := envA (.rol ns) n (tp (drawT ds 1 n (iota n))) (tp (drawT ds (1 + n) n (iota n)))) (st' := Bx ds (1 + n + n) []) ?_).trans (hm.trans hl)
    show (EL P 229).s (.mul (.nm 3) (.nm 4) (.call 29 (.cons (.var 1) (.cons (.var 2) .nil))) (.call 29 (.cons (.var 1) (.cons (.var 2) .nil)))) _ _ = _
    rw [ls_mul, tx 1 _ rfl rfl, r_bind, tx (1 + n) _ rfl rfl, r_bind, g_nm, r_bind, g_nm, r_bind]
    rfl
  exact ⟨[], call_0 (fn := f_law) rfl rfl rfl hb rfl⟩
end Lw
end

section
set_option Elab.async false
set_option linter.all false
set_option maxRecDepth 100000
set_option maxHeartbeats 0
open PySem PySem.W PySem.Calls PyProof.Rows
theorem PySem.Challenge.cw_turnabout_k02_sorting_sorting_holds : PySem.Challenge.rw_turnabout_k02_sorting_sorting.Holds := by
  w_on; o_law
  refine HandSHeadRun.head_imp (r := OpenLaw.row PySem.Challenge.rw_turnabout_k02_sorting_sorting) (q := view (OpenLaw.row PySem.Challenge.rw_turnabout_k02_sorting_sorting).prog [0, 50]) (H := Hd.hk) (ob := Hd.ob) (M := 20000) (loose := Hd.loose) (d := HandSHeadRun.topDef (OpenLaw.row PySem.Challenge.rw_turnabout_k02_sorting_sorting).prog 50) (kwd := []) Hd.ob_eq
    Hd.run (by kernel_rfl) (by kernel_rfl) (by kernel_rfl) (by rfl) (by first | assumption | decide +kernel) (by decide +kernel) ⟨rfl, rfl, rfl, rfl, rfl, by decide +kernel⟩ ?hw ?hc
  case hw => w_witness2
  case hc =>
    refine L2.walk_ofE (l := PySem.Challenge.rw_turnabout_k02_sorting_sorting) (n := 63) (k := Lw.lev + 1) (x := "script") (CX := L2.CX0) rfl (by decide) (by kernel_rfl) ⟨rfl, by decide, by decide⟩ ?F (fun _ _ _ _ z => z)
    intro w mg fa h Y G hmg0
    obtain ⟨K, KX, c, ci⟩ := Y
    have hmg : mg ("law" : PySem.Str) = some (.ref fa) := by
      have e : (HandSHeadRun.topDef (OpenLaw.row PySem.Challenge.rw_turnabout_k02_sorting_sorting).prog 50).name = ("law" : PySem.Str) := by kernel_rfl
      rw [← e]
      exact hmg0
    obtain ⟨fd, F⟩ := c.def_ 45 (d := Hd.d_law) rfl
    have e := hmg.symm.trans (He.glo_ok KX G (c.fact 45 (f := .glo "law") rfl))
    cases e
    have b := L2.FunD.bindsA (ps := ["script"]) F fun _ _ _ _ _ _ us hl => match us, hl with | [_], _ => rfl
    refine ⟨K, fd, Ev.spF K Lw.P (Ev.EL Lw.P Lw.lev) 45, KX, fun s v => b s [v] rfl, fun H a ns hl hO hS => Ev.sp_law (fn := Lw.f_law) rfl rfl hO hS (Lw.holds ns), fun base KB GB => ?_⟩
    exact Ev.fn_lawE (N := ["script", "box", "n", "one", "other", "rows", "numbers", "found", "told", "best", "first", "bad", "p", "q", "sums", "due", "row", "place", "pair", "k"]) (Lw.prg (prog := (PySem.Challenge.rw_turnabout_k02_sorting_sorting).prog) (w := w) c ci KX G) rfl F Lw.sc_law rfl rfl Lw.ck_law
end
