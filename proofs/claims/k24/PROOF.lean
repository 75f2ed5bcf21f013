import PyProof.Rows.All
import PySem.Str
import Wide.All
import OpenK.AllK
import Wide.FinOn
import HandS.ForMost
import HandS.Style
import HandS.TupAny
import HandS.TupMul
import HandS.Conv
import KE.SortData
import KE.DataMinMax
import KE.DataAny
import KE.DataCmp
import HandS.IsInst
import HandS.ReplaceList
import HandS.ReplaceLit
import HandS.StrMore
import HandS.Codes
import KE.IntTextLaws
import HandS.Defaults
import PyProof.PassesOwn
import HandS.Ends
import HandS.HeadEnd
import HandS.HeadHook2
import KE.KStateDown
import HandS.Head0
import HandS.Head1
import HandS.Head2
import HandS.HeadHook1
import PySem.Challenge.RW_turnabout_k24_plain_there_and_back
import HandS.Text
section
set_option autoImplicit false
set_option Elab.async false
/-! Ev: an own small language of the program's defs, its plain data, and its runner. -/
namespace Ev
open PySem (Str)

/-- plain data: tuples are values, lists, dicts, sets and instances stand in the store -/
inductive D where
  | non | bl (b : Bool) | int (i : Int) | str (s : Str) | tup (xs : List D) | ref (l : Nat) | fn (i : Nat) | rol (ns : List Int)
/-- a thing of the store -/
inductive O where
  | lst (xs : List D) | dct (kvs : List (D × D)) | lck (kvs : List (D × D)) | set (xs : List D) | ins (c : Nat) (fs : List (Nat × D))
abbrev Sto := List O
abbrev Env := List (Option D)

def sEq (a b : Str) : Bool := a.cps.toList == b.cps.toList
mutual
/-- Python's == on plain data -/
def D.eqv : D → D → Bool
  | .non, y => (match y with | .non => true | _ => false)
  | .bl a, y => (match y with | .bl b => a == b | .int j => (if a then 1 else 0) == j | _ => false)
  | .int i, y => (match y with | .bl b => i == (if b then 1 else 0) | .int j => i == j | _ => false)
  | .str a, y => (match y with | .str b => sEq a b | _ => false)
  | .tup xs, y => (match y with | .tup ys => D.eqvL xs ys | _ => false)
  | .ref _, _ => false
  | .fn _, _ => false
  | .rol _, _ => false
def D.eqvL : List D → List D → Bool
  | [], ys => (match ys with | [] => true | _ :: _ => false)
  | x :: xs, ys => (match ys with | [] => false | y :: ys => D.eqv x y && D.eqvL xs ys)
end
mutual
/-- the same datum, to the kind -/
def D.beq : D → D → Bool
  | .non, y => (match y with | .non => true | _ => false)
  | .bl a, y => (match y with | .bl b => a == b | _ => false)
  | .int i, y => (match y with | .int j => i == j | _ => false)
  | .str a, y => (match y with | .str b => sEq a b | _ => false)
  | .tup xs, y => (match y with | .tup ys => D.beqL xs ys | _ => false)
  | .ref i, y => (match y with | .ref j => i == j | _ => false)
  | .fn i, y => (match y with | .fn j => i == j | _ => false)
  | .rol a, y => (match y with | .rol b => a == b | _ => false)
def D.beqL : List D → List D → Bool
  | [], ys => (match ys with | [] => true | _ :: _ => false)
  | x :: xs, ys => (match ys with | [] => false | y :: ys => D.beq x y && D.beqL xs ys)
end
mutual
/-- plain through and through, at most so deep -/
def D.pl : Nat → D → Bool
  | _, .ref _ => false
  | _, .fn _ => false
  | _, .rol _ => false
  | k, .tup xs => (match k with | 0 => false | k + 1 => D.plL k xs)
  | _, .non => true
  | _, .bl _ => true
  | _, .int _ => true
  | _, .str _ => true
def D.plL : Nat → List D → Bool
  | _, [] => true
  | k, x :: xs => D.pl k x && D.plL k xs
end
def D.plain (d : D) : Bool := D.pl 60 d
def D.plainL (ds : List D) : Bool := D.plL 60 ds
/-- a key: false: an int or a text; true: a tuple of such -/
def D.simple : D → Bool
  | .int _ => true
  | .str _ => true
  | _ => false
def D.kk : D → Option Bool
  | .int _ => some false
  | .str _ => some false
  | _ => none
def kvAll (b : Bool) : List (D × D) → Bool
  | [] => true
  | p :: r => (match D.kk p.1 with | some c => c == b | none => false) && kvAll b r
/-- a key that a dict may be asked -/
def kvOk (k : D) (kvs : List (D × D)) : Bool := match D.kk k with
  | some b => kvAll b kvs
  | none => false
mutual
/-- all places of the store in it are below n -/
def D.low (n : Nat) : D → Bool
  | .ref l => decide (l < n)
  | .tup xs => D.lowL n xs
  | _ => true
def D.lowL (n : Nat) : List D → Bool
  | [] => true
  | x :: xs => D.low n x && D.lowL n xs
end
def lexN : List Nat → List Nat → Bool
  | [], ys => (match ys with | [] => false | _ :: _ => true)
  | x :: xs, ys => (match ys with | [] => false | y :: ys => if x == y then lexN xs ys else Nat.blt x y)
mutual
/-- Python's < on data of one make; none where the kinds part -/
def D.lt : D → D → Option Bool
  | .bl a, y => (match y with | .bl b => some (!a && b) | _ => none)
  | .int i, y => (match y with | .int j => some (decide (i < j)) | _ => none)
  | .str a, y => (match y with | .str b => some (lexN a.cps.toList b.cps.toList) | _ => none)
  | .tup xs, y => (match y with | .tup ys => D.ltL xs ys | _ => none)
  | _, _ => none
def D.ltL : List D → List D → Option Bool
  | [], ys => (match ys with | [] => some false | _ :: _ => some true)
  | x :: xs, ys => (match ys with
    | [] => some false
    | y :: ys => if D.eqv x y then D.ltL xs ys else D.lt x y)
end
mutual
/-- the two can be compared, place by place -/
def D.alike : D → D → Bool
  | .non, y => (match y with | .non => true | _ => false)
  | .bl _, y => (match y with | .bl _ => true | _ => false)
  | .int _, y => (match y with | .int _ => true | _ => false)
  | .str _, y => (match y with | .str _ => true | _ => false)
  | .tup xs, y => (match y with | .tup ys => D.alikeL xs ys | _ => false)
  | .ref _, _ => false
  | .fn _, _ => false
  | .rol _, _ => false
def D.alikeL : List D → List D → Bool
  | [], _ => true
  | x :: xs, ys => (match ys with | [] => true | y :: ys => D.alike x y && D.alikeL xs ys)
end
def D.isInt : D → Bool
  | .int _ => true
  | _ => false
def D.isStr : D → Bool
  | .str _ => true
  | _ => false
def D.isInts : D → Bool
  | .tup xs => xs.all D.isInt
  | _ => false
def alikeTo (x : D) : List D → Bool
  | [] => true
  | y :: ys => D.alike x y && D.alike y x && alikeTo x ys
def alikeAll : List D → Bool
  | [] => true
  | x :: xs => D.alike x x && alikeTo x xs && alikeAll xs
def D.isNon : D → Bool
  | .non => true
  | _ => false
/-- all can be compared with all -/
def uniform (xs : List D) : Bool := D.plainL xs && (xs.all D.isInt || xs.all D.isStr || xs.all D.isInts || (alikeAll xs && xs.all fun x => !D.isNon x))
def D.isTup1 : D → Bool
  | .tup xs => (match xs with | [] => false | _ :: _ => true)
  | _ => false
def D.isTup : D → Bool
  | .tup _ => true
  | _ => false
def cmpOk (x y : D) : Bool := D.plain x && D.plain y && D.alike x y && D.alike y x && !D.isNon x
def ltR (x y : D) : Option Bool := if cmpOk x y then D.lt x y else none
def gtR (x y : D) : Option Bool := if cmpOk x y then D.lt y x else none
def pairBelow (n : Nat) : List (D × D) → Bool
  | [] => true
  | p :: r => D.low n p.1 && D.low n p.2 && pairBelow n r
def O.low (n : Nat) : O → Bool
  | .lst xs => D.lowL n xs
  | .dct kvs => pairBelow n kvs
  | .lck kvs => pairBelow n kvs
  | .set xs => D.lowL n xs
  | .ins _ fs => fs.all fun p => D.low n p.2
def stBelow (n : Nat) : Sto → Bool
  | [] => true
  | o :: r => O.low n o && stBelow n r
def beqKV : List (D × D) → List (D × D) → Bool
  | [], ys => (match ys with | [] => true | _ :: _ => false)
  | x :: xs, ys => (match ys with | [] => false | y :: ys => D.beq x.1 y.1 && D.beq x.2 y.2 && beqKV xs ys)
def O.beq : O → O → Bool
  | .lst xs, y => (match y with | .lst ys => D.beqL xs ys | _ => false)
  | .dct xs, y => (match y with | .dct ys => beqKV xs ys | _ => false)
  | .lck xs, y => (match y with | .lck ys => beqKV xs ys | _ => false)
  | .set xs, y => (match y with | .set ys => D.beqL xs ys | _ => false)
  | .ins _ _, _ => false

/-! ### the language -/
inductive Bop where | add | sub | mul | fdiv | mod | pow
inductive Cop where | eq | ne | lt | le | gt | ge | isin | notin | is_ | isnot
inductive Ty where | int | str | tuple | bool | list
inductive Blt where | len | range | tuple | list | set | dict | sorted | min | max | sum | abs | int | str | enumerate | zip | reversed | all | any | ord | factorial | gcd | lcm
inductive Mth where | append | extend | pop | index | count | items | values | keys | get | setdefault | update | join | split | replace | startswith | find | isascii | isdigit | remove | insert
/-- a place that takes a value -/
inductive T where
  | nm (i : Nat) | nil | cons (t r : T)
/-- expressions; nil and cons: rows of arguments; none: left out -/
inductive E where
  | val (a : E) | var (i : Nat) | cst (d : D) | glb (x : Str) (d : D)
  | bin (o : Bop) (a b : E) | neg (a : E) | cmp (o : Cop) (a b : E) | cmp2 (o p : Cop) (a b c : E)
  | and (a b : E) | or (a b : E) | not (a : E) | ifx (c a b : E)
  | tup (es : E) | lst (es : E) | dic (es : E) | nil | cons (e r : E) | none
  | idx (a i : E) | slc (a lo hi : E) | rev (a : E)
  | rpl (a : E) (y z : Str) | call (f : Nat) (es : E) | blt (b : Blt) (es : E) | mth (m : Mth) (o : E) (es : E) | isi (t : Ty) (e : E)
  | lc (vs : List Nat) (t : T) (it c e : E) | lc2 (vs : List Nat) (t : T) (it : E) (t' : T) (it' c e : E) | dc (vs : List Nat) (t : T) (it k v : E)
/-- a place of an assignment of two -/
inductive G where
  | nm (i : Nat) | sub (o i : E)
inductive S where
  | skip | seq (s r : S) | exp (e : E) | ret (e : E) | retn | brk | cnt
  | asg (t : T) (e : E) | sto (o i e : E) | aug (i : Nat) (o : Bop) (e : E) | augs (a i : E) (o : Bop) (e : E)
  | par (i j : Nat) (a b : E)
  | mul (t u : G) (a b : E)
  | ife (c : E) (a b : S) | whl (c : E) (b : S) | fr (t : T) (it : E) (b : S) | del (o i : E) | nev

/-! ### the runner -/
structure Exn where
  cls : Nat
  fs : List D
inductive R (α : Type) where
  | no | ok (a : α) (st : Sto) | ex (x : Exn) (st : Sto)
inductive Out where
  | nx (env : Env) | rt (d : D) | bk (env : Env) | ct (env : Env)
@[inline] def R.bind {α β : Type} (r : R α) (f : α → Sto → R β) : R β := match r with
  | .ok a st => f a st
  | .no => .no
  | .ex x st => .ex x st
/-- no exception is looked for -/
@[inline] def R.val {α : Type} (r : R α) : R α := match r with
  | .ok a st => .ok a st
  | .no => .no
  | .ex _ _ => .no
/-- what holds behind it -/
def R.pst {α : Type} (r : R α) (Q : α → Sto → Prop) (Z : Exn → Sto → Prop) : Prop := match r with
  | .ok a st => Q a st
  | .no => False
  | .ex x st => Z x st
def Env.get : Env → Nat → Option D
  | [], _ => none
  | d :: r, i => (match i with | 0 => d | j + 1 => Env.get r j)
def Env.put : Env → Nat → D → Env
  | [], _, _ => []
  | x :: r, i, d => (match i with | 0 => some d :: r | j + 1 => x :: Env.put r j d)
def Env.cut : Env → Nat → Env
  | [], _ => []
  | x :: r, i => (match i with | 0 => Option.none :: r | j + 1 => x :: Env.cut r j)
def Env.wipe (env : Env) : List Nat → Env
  | [] => env
  | v :: vs => Env.cut (Env.wipe env vs) v
def Env.new : Nat → List D → Env
  | 0, _ => []
  | n + 1, ds => (match ds with | [] => Option.none :: Env.new n [] | d :: ds => some d :: Env.new n ds)
def sget : Sto → Nat → Option O
  | [], _ => none
  | o :: r, l => (match l with | 0 => some o | k + 1 => sget r k)
/-- as it is read -/
def sgetR (st : Sto) (l : Nat) : Option O := match sget st l with
  | some (.lck kvs) => some (.dct kvs)
  | o => o
def sput : Sto → Nat → O → Sto
  | [], _, _ => []
  | x :: r, l, o => (match l with | 0 => o :: r | k + 1 => x :: sput r k o)
def slen : Sto → Nat
  | [] => 0
  | _ :: r => slen r + 1
def line : Nat := 16777216
def small (n : Nat) : Bool := Nat.ble n line
def new (o : O) (st : Sto) : R D := .ok (.ref st.length) (st ++ [o])
/-- a target takes a value -/
def T.take : T → D → Env → Option Env
  | .nm i, d, env => some (env.put i d)
  | .nil, d, env => (match d with | .tup xs => (match xs with | [] => some env | _ :: _ => none) | _ => none)
  | .cons t r, d, env => (match d with
    | .tup xs => (match xs with
      | [] => none
      | x :: xs => (match T.take t x env with
        | some env => T.take r (.tup xs) env
        | none => none))
    | _ => none)
def truth (st : Sto) : D → Option Bool
  | .non => some false
  | .bl b => some b
  | .int i => some (i != 0)
  | .str s => if small s.length then some (!s.cps.toList.isEmpty) else none
  | .tup xs => some (!xs.isEmpty)
  | .ref l => (match sgetR st l with
    | some (.lst xs) => some (!xs.isEmpty)
    | _ => none)
  | .fn _ => none
  | .rol _ => none
def rep {α : Type} (xs : List α) : Nat → List α
  | 0 => []
  | n + 1 => xs ++ rep xs n
def mulOk (i j : Int) : Bool := (decide (-18446744073709551616 < i) && decide (i < 18446744073709551616)) || (decide (-18446744073709551616 < j) && decide (j < 18446744073709551616))
def binop (o : Bop) (x y : D) (st : Sto) : R D := match o with
  | .add => (match x with
    | .int i => (match y with | .int j => .ok (.int (i + j)) st | _ => .no)
    | .str a => (match y with | .str b => if small (a.length + b.length) then .ok (.str (a ++ b)) st else .no | _ => .no)
    | .tup xs => (match y with | .tup ys => if small (xs.length + ys.length) then .ok (.tup (xs ++ ys)) st else .no | _ => .no)
    | .ref a => (match y with
      | .ref b => (match sget st a with
        | some (.lst xs) => (match sget st b with
          | some (.lst ys) => if small (xs.length + ys.length) then new (.lst (xs ++ ys)) st else .no
          | _ => .no)
        | _ => .no)
      | _ => .no)
    | _ => .no)
  | .sub => (match x with | .int i => (match y with | .int j => .ok (.int (i - j)) st | _ => .no) | _ => .no)
  | .mul => (match x with
    | .int i => (match y with | .int j => if mulOk i j then .ok (.int (i * j)) st else .no | _ => .no)
    | .ref a => (match y with
      | .int j => (match sget st a with
        | some (.lst xs) => if small (xs.length * j.toNat) && decide (j < 9223372036854775808) && decide (-9223372036854775808 ≤ j) then new (.lst (rep xs j.toNat)) st else .no
        | _ => .no)
      | _ => .no)
    | _ => .no)
  | .fdiv => (match x with | .int i => (match y with | .int j => if j != 0 && decide (j.natAbs < 1073741824) then .ok (.int (i.fdiv j)) st else .no | _ => .no) | _ => .no)
  | .mod => (match x with | .int i => (match y with | .int j => if j != 0 then .ok (.int (i.fmod j)) st else .no | _ => .no) | _ => .no)
  | .pow => (match x with | .int i => (match y with | .int j => if decide (0 ≤ j) && decide (j ≤ 1000000) && decide (i.natAbs < 18446744073709551616) then .ok (.int (i ^ j.toNat)) st else .no | _ => .no) | _ => .no)
def anyEq (x : D) : List D → Bool
  | [] => false
  | y :: ys => D.eqv y x || anyEq x ys
def kvGet (k : D) : List (D × D) → Option D
  | [] => none
  | p :: r => if D.eqv p.1 k then some p.2 else kvGet k r
def kvSet (k v : D) : List (D × D) → List (D × D)
  | [] => []
  | p :: r => (if D.eqv p.1 k then (p.1, v) else p) :: kvSet k v r
def kvPut (k v : D) (kvs : List (D × D)) : List (D × D) := if (kvGet k kvs).isSome then kvSet k v kvs else kvs ++ [(k, v)]
def kvDel (k : D) : List (D × D) → List (D × D)
  | [] => []
  | p :: r => if D.eqv p.1 k then kvDel k r else p :: kvDel k r
def memN (c : Nat) : List Nat → Bool
  | [] => false
  | y :: ys => c == y || memN c ys
def eqR (st : Sto) (x y : D) : Option Bool := match x with
  | .ref a => (match y with
    | .ref b => (match sget st a with
      | some (.lst xs) => (match sget st b with
        | some (.lst ys) => if D.plainL xs && D.plainL ys then some (D.eqvL xs ys) else none
        | _ => none)
      | _ => none)
    | _ => none)
  | _ => if D.plain x && D.plain y then some (D.eqv x y) else none
def inR (st : Sto) (x y : D) : Option Bool := match y with
  | .tup ys => if D.plain x && D.plainL ys then some (anyEq x ys) else none
  | .str b => (match x with | .str a => (match a.cps.toList with | [c] => some (memN c b.cps.toList) | _ => none) | _ => none)
  | .ref l => (match sgetR st l with
    | some (.lst ys) => if D.plain x && D.plainL ys then some (anyEq x ys) else none
    | some (.dct kvs) => if kvOk x kvs then some (kvGet x kvs).isSome else none
    | _ => none)
  | _ => none
def isR (x y : D) : Option Bool := match y with
  | .non => some (match x with | .non => true | _ => false)
  | .bl b => some (match x with | .bl c => c == b | _ => false)
  | _ => none
def cmpop (o : Cop) (x y : D) (st : Sto) : Option Bool := match o with
  | .eq => eqR st x y
  | .ne => (match eqR st x y with | some b => some (!b) | none => none)
  | .lt => ltR x y
  | .gt => gtR x y
  | .le => (match gtR x y with | some b => some (!b) | none => none)
  | .ge => (match ltR x y with | some b => some (!b) | none => none)
  | .isin => inR st x y
  | .notin => (match inR st x y with | some b => some (!b) | none => none)
  | .is_ => isR x y
  | .isnot => (match isR x y with | some b => some (!b) | none => none)
/-- x op= y where nothing is written -/
def iop (o : Bop) (x y : D) (st : Sto) : R D := match x with
  | .int i => (match y with
    | .int j => (match o with
      | .add => .ok (.int (i + j)) st
      | .sub => .ok (.int (i - j)) st
      | .mul => if mulOk i j then .ok (.int (i * j)) st else .no
      | .fdiv => if j != 0 && decide (j.natAbs < 1073741824) then .ok (.int (i.fdiv j)) st else .no
      | .mod => if j != 0 then .ok (.int (i.fmod j)) st else .no
      | .pow => .no)
    | _ => .no)
  | .str a => (match y with
    | .str b => (match o with
      | .add => if small (a.length + b.length) then .ok (.str (a ++ b)) st else .no
      | _ => .no)
    | _ => .no)
  | _ => .no
def ofB (st : Sto) : Option Bool → R D
  | some b => .ok (.bl b) st
  | none => .no
/-- the place of a number in a row of n -/
def place (n : Nat) (i : Int) : Option Nat := match i with
  | .ofNat k => if Nat.blt k n then some k else none
  | .negSucc k => if Nat.blt k n then some (n - (k + 1)) else none
def nth {α : Type} : List α → Nat → Option α
  | [], _ => none
  | x :: r, i => (match i with | 0 => some x | j + 1 => nth r j)
def setN {α : Type} : List α → Nat → α → List α
  | [], _, _ => []
  | x :: r, i, y => (match i with | 0 => y :: r | j + 1 => x :: setN r j y)
def at_ {α : Type} (xs : List α) (i : Int) : Option α := match place xs.length i with
  | some k => nth xs k
  | none => none
def item (x i : D) (st : Sto) : R D := match x with
  | .tup xs => (match i with | .int k => (match at_ xs k with | some d => .ok d st | none => .no) | _ => .no)
  | .str s => (match i with | .int k => if small s.length then (match at_ s.cps.toList k with | some c => .ok (.str ⟨#[c]⟩) st | none => .no) else .no | _ => .no)
  | .ref l => (match sgetR st l with
    | some (.lst xs) => (match i with | .int k => (match at_ xs k with | some d => .ok d st | none => .no) | _ => .no)
    | some (.dct kvs) => if kvOk i kvs then (match kvGet i kvs with | some d => .ok d st | none => .no) else .no
    | _ => .no)
  | .rol ns => (match i with | .int k => (match at_ ns k with | some n => .ok (.int n) st | none => .no) | _ => .no)
  | _ => .no
def cutAt (n d : Nat) : Option Int → Nat
  | none => d
  | some v => (match v with
    | .ofNat k => if Nat.blt k n then k else n
    | .negSucc k => n - (k + 1))
def cutL {α : Type} (xs : List α) (lo hi : Option Int) : List α := (xs.drop (cutAt xs.length 0 lo)).take (cutAt xs.length xs.length hi - cutAt xs.length 0 lo)
def cut (x : D) (lo hi : Option Int) (st : Sto) : R D := match x with
  | .tup xs => .ok (.tup (cutL xs lo hi)) st
  | .str s => if small s.length then .ok (.str ⟨(cutL s.cps.toList lo hi).toArray⟩) st else .no
  | .ref l => (match sget st l with
    | some (.lst xs) => new (.lst (cutL xs lo hi)) st
    | _ => .no)
  | _ => .no
def store (x i d : D) (st : Sto) : R Unit := match x with
  | .ref l => (match sget st l with
    | some (.lst xs) => (match i with
      | .int k => (match place xs.length k with
        | some j => .ok () (sput st l (.lst (setN xs j d)))
        | none => .no)
      | _ => .no)
    | some (.dct kvs) => if kvOk i kvs && Nat.blt kvs.length line then .ok () (sput st l (.dct (kvPut i d kvs))) else .no
    | _ => .no)
  | _ => .no
def intsFrom (a : Int) : Nat → List D
  | 0 => []
  | n + 1 => .int a :: intsFrom (a + 1) n
/-- stable sorting by putting in -/
def insD (x : D) : List D → Option (List D)
  | [] => some [x]
  | y :: ys => (match D.lt y x with
    | some true => (match insD x ys with | some r => some (y :: r) | none => none)
    | some false => some (x :: y :: ys)
    | none => none)
def sortD : List D → Option (List D)
  | [] => some []
  | x :: xs => (match sortD xs with | some r => insD x r | none => none)
/-- what is walked, with the things that it is read off; pr: each item a pair just made -/
structure It where
  items : List D
  src : List (Nat × O)
  pr : Bool
def srcOk (st : Sto) : List (Nat × O) → Bool
  | [] => true
  | p :: r => (match sget st p.1 with | some o => O.beq p.2 o | none => false) && srcOk st r
def itOf (d : D) (st : Sto) : Option It := match d with
  | .tup xs => some ⟨xs, [], false⟩
  | .str s => some ⟨s.cps.toList.map fun c => .str ⟨#[c]⟩, [], false⟩
  | .ref l => (match sget st l with
    | some (.lst xs) => some ⟨xs, [(l, .lst xs)], false⟩
    | some (.lck kvs) => some ⟨kvs.map (·.1), [], false⟩
    | _ => none)
  | .rol ns => some ⟨ns.map .int, [], false⟩
  | _ => none
def zipD : List D → List D → List D
  | [], _ => []
  | x :: xs, ys => (match ys with | [] => [] | y :: ys => .tup [x, y] :: zipD xs ys)
def numD (a : Int) : List D → List D
  | [] => []
  | x :: xs => .tup [.int a, x] :: numD (a + 1) xs
def foldI (f : Int → Int → Int) (a : Int) : List D → Option Int
  | [] => some a
  | .int i :: r => foldI f (f a i) r
  | _ :: _ => none
def least (lt : D → D → Option Bool) (m : D) : List D → Option D
  | [] => some m
  | x :: xs => (match lt x m with | some b => least lt (if b then x else m) xs | none => none)
def joinS (sep : List Nat) : List D → Option (List Nat)
  | [] => some []
  | .str s :: r => (match r with
    | [] => some s.cps.toList
    | _ :: _ => (match joinS sep r with | some t => some (s.cps.toList ++ sep ++ t) | none => none))
  | _ :: _ => none
structure Fn where
  ps : Nat
  ns : Nat
  body : S
structure Ev where
  e : E → Env → Sto → R D
  es : E → Env → Sto → R (List D)
  t : E → Env → Sto → R Bool
  i : E → Env → Sto → R It
  s : S → Env → Sto → R Out
def Ev.none : Ev := ⟨fun _ _ _ => .no, fun _ _ _ => .no, fun _ _ _ => .no, fun _ _ _ => .no, fun _ _ _ => .no⟩
/-- what is left of a call: n things stood before it -/
def fin (n : Nat) (d : D) (st : Sto) : R D :=
  if Nat.ble (slen st) n then .ok d st
  else if stBelow n (st.take n) then
    (if D.low n d then .ok d (st.take n)
    else match d with
      | .ref l => (match sget st l with
        | some o => if O.low n o then .ok (.ref n) (st.take n ++ [o]) else .ok d st
        | none => .no)
      | _ => .ok d st)
  else .ok d st
mutual
def D.up (n : Nat) : D → D
  | .ref l => .ref (l + n)
  | .tup xs => .tup (D.upL n xs)
  | d => d
def D.upL (n : Nat) : List D → List D
  | [] => []
  | x :: xs => D.up n x :: D.upL n xs
end
def O.up (n : Nat) : O → O
  | .lst xs => .lst (D.upL n xs)
  | .dct kvs => .dct (kvs.map fun p => (D.up n p.1, D.up n p.2))
  | .lck kvs => .lck (kvs.map fun p => (D.up n p.1, D.up n p.2))
  | .set xs => .set (D.upL n xs)
  | .ins c fs => .ins c (fs.map fun p => (p.1, D.up n p.2))
def D.isRef : D → Bool
  | .ref _ => true
  | _ => false
/-- a call that was run over an empty store -/
def lay (d : D) (st1 st : Sto) : R D := match st1 with
  | [] => .ok d st
  | o :: r => if r.isEmpty && O.low 0 o && D.isRef d then .ok (.ref (slen st)) (st ++ [o]) else .ok (D.up (slen st) d) (st ++ st1.map (O.up (slen st)))
def body (rc : Ev) (b : S) (env : Env) (st : Sto) : R D := (rc.s b env st).bind fun o st => match o with
  | .rt d => .ok d st
  | .nx _ => .ok .non st
  | _ => .no
def callF (P : List Fn) (rc : Ev) (f : Nat) (ds : List D) (st : Sto) : R D := match nth P f with
  | none => .no
  | some f => if ds.length == f.ps then
      (if D.lowL 0 ds then (match (body rc f.body (Env.new f.ns ds) []).bind (fin 0) with
          | .ok d st1 => lay d st1 st
          | .ex x _ => if D.lowL 0 x.fs then .ex x st else .no
          | .no => .no)
        else (body rc f.body (Env.new f.ns ds) st).bind (fin (slen st)))
    else .no
def opt (f : E → Env → Sto → R D) (e : E) (env : Env) (st : Sto) : R (Option Int) := match e with
  | .none => .ok Option.none st
  | e => (f e env st).bind fun d st => match d with
    | .int i => .ok (some i) st
    | _ => .no
/-- a comprehension's turns -/
def lcGo (r : Ev) (t : T) (c e : E) (env : Env) (src : List (Nat × O)) : List D → List D → Sto → R (List D)
  | [], acc, st => if srcOk st src then .ok acc.reverse st else .no
  | x :: xs, acc, st => if srcOk st src then (match T.take t x env with
    | some env' => (r.t c env' st).val.bind fun b st => if b then (r.e e env' st).val.bind fun d st => lcGo r t c e env src xs (d :: acc) st else lcGo r t c e env src xs acc st
    | none => .no) else .no
def lcIn (r : Ev) (t : T) (c e : E) (env : Env) (src : List (Nat × O)) : List D → List D → Sto → R (List D)
  | [], acc, st => if srcOk st src then .ok acc st else .no
  | x :: xs, acc, st => if srcOk st src then (match T.take t x env with
    | some env' => (r.t c env' st).val.bind fun b st => if b then (r.e e env' st).val.bind fun d st => lcIn r t c e env src xs (d :: acc) st else lcIn r t c e env src xs acc st
    | none => .no) else .no
def lcOut (r : Ev) (t : T) (it' : E) (t' : T) (c e : E) (env : Env) (src : List (Nat × O)) : List D → List D → Sto → R (List D)
  | [], acc, st => if srcOk st src then .ok acc.reverse st else .no
  | x :: xs, acc, st => if srcOk st src then (match T.take t x env with
    | some env' => (r.i it' env' st).val.bind fun it st => (lcIn r t' c e env' it.src it.items acc st).bind fun acc st => lcOut r t it' t' c e env src xs acc st
    | none => .no) else .no
def dcGo (r : Ev) (t : T) (k v : E) (env : Env) (src : List (Nat × O)) : List D → List (D × D) → Sto → R (List (D × D))
  | [], acc, st => if srcOk st src then .ok acc st else .no
  | x :: xs, acc, st => if srcOk st src then (match T.take t x env with
    | some env' => (r.e k env' st).val.bind fun k' st => (r.e v env' st).val.bind fun v' st => if kvOk k' acc && Nat.blt acc.length line then dcGo r t k v env src xs (kvPut k' v' acc) st else .no
    | none => .no) else .no
def frGo (r : Ev) (t : T) (b : S) (src : List (Nat × O)) : List D → Env → Sto → R Out
  | [], env, st => if srcOk st src then .ok (.nx env) st else .no
  | x :: xs, env, st => if srcOk st src then (match T.take t x env with
    | some env' => (r.s b env' st).bind fun o st => (match o with
      | .nx env => frGo r t b src xs env st
      | .ct env => frGo r t b src xs env st
      | .bk env => .ok (.nx env) st
      | .rt d => .ok (.rt d) st)
    | none => .no) else .no
def whGo (r : Ev) (c : E) (b : S) : Nat → Env → Sto → R Out
  | 0, _, _ => .no
  | k + 1, env, st => (r.t c env st).bind fun x st => if x then (r.s b env st).bind fun o st => (match o with
      | .nx env => whGo r c b k env st
      | .ct env => whGo r c b k env st
      | .bk env => .ok (.nx env) st
      | .rt d => .ok (.rt d) st) else .ok (.nx env) st
/-- the dict that a loop locks while it walks it -/
def lockOf (e : E) (env : Env) (st : Sto) : Option Nat :=
  let i := match e with
    | .val e => (match e with | .var i => some i | _ => none)
    | .mth m o es => (match m with
      | .items => (match o with | .var i => (match es with | .nil => some i | _ => none) | _ => none)
      | .values => (match o with | .var i => (match es with | .nil => some i | _ => none) | _ => none)
      | _ => none)
    | _ => none
  match i with
  | some i => (match env.get i with
    | some (.ref l) => (match sget st l with | some (.dct _) => some l | _ => none)
    | _ => none)
  | none => none
def lock (l : Nat) (st : Sto) : Sto := match sget st l with
  | some (.dct kvs) => sput st l (.lck kvs)
  | _ => st
def unlock (l : Nat) (st : Sto) : Sto := match sget st l with
  | some (.lck kvs) => sput st l (.dct kvs)
  | _ => st
def locked {α : Type} (o : Option Nat) (f : Sto → R α) (st : Sto) : R α := match o with
  | none => f st
  | some _ => .no
def lenR (d : D) (st : Sto) : Option Nat := match d with
  | .tup xs => some xs.length
  | .str s => if small s.length then some s.length else none
  | .ref l => (match sget st l with
    | some (.lst xs) => some xs.length
    | some (.dct kvs) => some kvs.length
    | _ => none)
  | .rol ns => some ns.length
  | _ => none
def pairsOf : List D → Option (List (D × D))
  | [] => some []
  | .tup [k, v] :: r => if (D.kk k).isSome then (match pairsOf r with | some q => some ((k, v) :: q) | none => none) else none
  | _ :: _ => none
def putAll : List (D × D) → List (D × D) → List (D × D)
  | [], acc => acc
  | p :: r, acc => putAll r (kvPut p.1 p.2 acc)
def uniq : List D → List D → List D
  | [], acc => acc.reverse
  | x :: xs, acc => uniq xs (if anyEq x acc then acc else x :: acc)
def allT (st : Sto) : List D → Option Bool
  | [] => some true
  | x :: xs => (match truth st x with | some true => allT st xs | some false => some false | none => none)
def anyT (st : Sto) : List D → Option Bool
  | [] => some false
  | x :: xs => (match truth st x with | some true => some true | some false => anyT st xs | none => none)
def okO {α : Type} (st : Sto) : Option α → R α
  | some a => .ok a st
  | none => .no
def fact : Nat → Nat
  | 0 => 1
  | n + 1 => (n + 1) * fact n
def digs : List Nat → Nat → Option Nat
  | [], n => some n
  | c :: r, n => if Nat.ble 48 c && Nat.ble c 57 then digs r (n * 10 + (c - 48)) else none
def posOf (l : List Nat) : Option Int := match digs l 0 with
  | some n => some (n : Int)
  | none => none
def negOf (l : List Nat) : Option Int := match l with
  | [] => none
  | _ :: _ => (match digs l 0 with | some n => some (-(n : Int)) | none => none)
/-- the integer that plain figures tell -/
def intOf (l : List Nat) : Option Int := match l with
  | [] => none
  | c :: r => if c == 45 then negOf r else posOf l
/-- built-ins on one value, on two -/
def blt1 (b : Blt) (d : D) (st : Sto) : R D := match b with
  | .len => (match lenR d st with | some n => .ok (.int n) st | none => .no)
  | .abs => (match d with | .int i => .ok (.int (if i < 0 then -i else i)) st | _ => .no)
  | .int => (match d with
    | .int i => .ok (.int i) st
    | .bl b => .ok (.int (if b then 1 else 0)) st
    | .str s => if Nat.ble s.length 640 then (match intOf s.cps.toList with | some n => .ok (.int n) st | none => .no) else .no
    | _ => .no)
  | .str => (match d with | .int i => if Nat.blt i.natAbs.log2 1920 then .ok (.str (Str.ofString (toString i))) st else .no | _ => .no)
  | .ord => (match d with | .str s => (match s.cps.toList with | [c] => .ok (.int c) st | _ => .no) | _ => .no)
  | .factorial => (match d with | .int i => if decide (0 ≤ i) && decide (i < 1000) then .ok (.int (fact i.toNat)) st else .no | _ => .no)
  | _ => .no
def blt2 (b : Blt) (d e : D) (st : Sto) : R D := match d with
  | .int i => (match e with
    | .int j => (match b with
      | .max => .ok (.int (if j > i then j else i)) st
      | .min => .ok (.int (if j < i then j else i)) st
      | .gcd => .ok (.int (Int.gcd i j)) st
      | .lcm => .ok (.int (Int.lcm i j)) st
      | _ => .no)
    | _ => .no)
  | _ => .no
def bltV (b : Blt) (ds : List D) (st : Sto) : R D := match ds with
  | [] => .no
  | d :: r => (match r with
    | [] => blt1 b d st
    | e :: q => (match q with | [] => blt2 b d e st | _ :: _ => .no))
/-- built-ins on one thing that is walked -/
def bltI (b : Blt) (xs : List D) (st : Sto) : R D := match b with
  | .tuple => if small xs.length then .ok (.tup xs) st else .no
  | .list => if small xs.length then new (.lst xs) st else .no
  | .set => .no
  | .dict => (match pairsOf xs with | some kvs => new (.dct (putAll kvs [])) st | none => .no)
  | .sorted => if uniform xs && (xs.all D.isTup1 || xs.all fun x => !D.isTup x) && small xs.length then (match sortD xs with | some r => new (.lst r) st | none => .no) else .no
  | .max => if uniform xs then (match xs with | [] => .no | x :: xs => okO st (least (fun a b => D.lt b a) x xs)) else .no
  | .min => if uniform xs then (match xs with | [] => .no | x :: xs => okO st (least D.lt x xs)) else .no
  | .sum => (match foldI (· + ·) 0 xs with | some i => .ok (.int i) st | none => .no)
  | .all => ofB st (allT st xs)
  | .any => ofB st (anyT st xs)
  | _ => .no
def chars (s : Str) : List Nat := s.cps.toList
def ofChars (l : List Nat) : Str := ⟨l.toArray⟩
def findIx (x : D) : List D → Option Nat
  | [] => none
  | y :: ys => if D.eqv y x then some 0 else (match findIx x ys with | some k => some (k + 1) | none => none)
def countEq (x : D) : List D → Nat
  | [] => 0
  | y :: ys => if D.eqv y x then countEq x ys + 1 else countEq x ys
def delIx {α : Type} : List α → Nat → List α
  | [], _ => []
  | x :: r, i => (match i with | 0 => r | j + 1 => x :: delIx r j)
inductive Kd where | str | lst | tup | dct
def kdOf (d : D) (st : Sto) : Option Kd := match d with
  | .str _ => some .str
  | .tup _ => some .tup
  | .ref l => (match sget st l with
    | some (.lst _) => some .lst
    | some (.dct _) => some .dct
    | _ => none)
  | _ => none
def mthL1 (l : Nat) (xs : List D) (m : Mth) (d : D) (st : Sto) : R D := match m with
  | .append => if Nat.blt xs.length line then .ok .non (sput st l (.lst (xs ++ [d]))) else .no
  | .extend => (match d with | .ref b => (match sget st b with | some (.lst ys) => if small (xs.length + ys.length) then .ok .non (sput st l (.lst (xs ++ ys))) else .no | _ => .no) | _ => .no)
  | .pop => (match d with
    | .int i => if small xs.length then (match place xs.length i with
      | some k => (match nth xs k with | some d => .ok d (sput st l (.lst (delIx xs k))) | none => .no)
      | none => .no) else .no
    | _ => .no)
  | .index => if D.plain d && D.plainL xs then (match findIx d xs with | some k => .ok (.int k) st | none => .no) else .no
  | .count => if D.plain d && D.plainL xs then .ok (.int (countEq d xs)) st else .no
  | _ => .no
def mthL0 (l : Nat) (xs : List D) (m : Mth) (st : Sto) : R D := match m with
  | .pop => (match nth xs (xs.length - 1) with | some d => .ok d (sput st l (.lst (xs.take (xs.length - 1)))) | none => .no)
  | _ => .no
def mthL (l : Nat) (m : Mth) (ds : List D) (st : Sto) : R D := match sget st l with
  | some (.lst xs) => (match ds with
    | [] => mthL0 l xs m st
    | d :: r => (match r with | [] => mthL1 l xs m d st | _ :: _ => .no))
  | _ => .no
def mthD1 (kvs : List (D × D)) (m : Mth) (k : D) (st : Sto) : R D := match m with
  | .get => if kvOk k kvs then .ok ((kvGet k kvs).getD .non) st else .no
  | _ => .no
def mthD2 (kvs : List (D × D)) (m : Mth) (k d : D) (st : Sto) : R D := match m with
  | .get => if kvOk k kvs then .ok ((kvGet k kvs).getD d) st else .no
  | _ => .no
def mthD (l : Nat) (m : Mth) (ds : List D) (st : Sto) : R D := match sget st l with
  | some (.dct kvs) => (match ds with
    | [] => .no
    | k :: r => (match r with
      | [] => mthD1 kvs m k st
      | d :: q => (match q with | [] => mthD2 kvs m k d st | _ :: _ => .no)))
  | _ => .no
def mthT1 (xs : List D) (m : Mth) (d : D) (st : Sto) : R D := match m with
  | .index => if D.plain d && D.plainL xs then (match findIx d xs with | some k => .ok (.int k) st | none => .no) else .no
  | .count => if D.plain d && D.plainL xs then .ok (.int (countEq d xs)) st else .no
  | _ => .no
def mthT (xs : List D) (m : Mth) (ds : List D) (st : Sto) : R D := match ds with
  | [] => .no
  | d :: r => (match r with | [] => mthT1 xs m d st | _ :: _ => .no)
/-- the row of things that a list or a tuple is -/
def rowOf (d : D) (st : Sto) : Option (List D) := match d with
  | .tup xs => some xs
  | .ref l => (match sget st l with | some (.lst xs) => some xs | _ => none)
  | _ => none
/-- the place of the sign from k on -/
def findC (c : Nat) : List Nat → Nat → Int
  | [], _ => -1
  | x :: r, k => if x == c then k else findC c r (k + 1)
/-- a bound of a text's part -/
def clip (n : Nat) (i : Int) : Nat := match i with
  | .ofNat k => if Nat.blt k n then k else n
  | .negSucc k => n - (k + 1)
def findS (s : List Nat) (c : Nat) (lo hi : Nat) : Int := findC c ((s.take hi).drop lo) lo
def sign1 (d : D) : Option Nat := match d with
  | .str y => (match y.cps.toList with
    | [] => none
    | c :: r => (match r with | [] => some c | _ :: _ => none))
  | _ => none
def mthS1 (s : Str) (m : Mth) (d : D) (st : Sto) : R D := match m with
  | .join => (match rowOf d st with
    | some xs => (match joinS (chars s) xs with | some l => if small (l.length + s.length) then .ok (.str (ofChars l)) st else .no | none => .no)
    | none => .no)
  | .find => (match sign1 d with | some c => .ok (.int (findS s.cps.toList c 0 s.length)) st | none => .no)
  | _ => .no
def mthS2 (s : Str) (m : Mth) (d e : D) (st : Sto) : R D := match m with
  | .find => (match sign1 d with
    | some c => (match e with | .int i => .ok (.int (findS s.cps.toList c (clip s.length i) s.length)) st | _ => .no)
    | none => .no)
  | _ => .no
def mthS3 (s : Str) (m : Mth) (d e f : D) (st : Sto) : R D := match m with
  | .find => (match sign1 d with
    | some c => (match e with | .int i => (match f with | .int j => .ok (.int (findS s.cps.toList c (clip s.length i) (clip s.length j))) st | _ => .no) | _ => .no)
    | none => .no)
  | _ => .no
def mthS (s : Str) (m : Mth) (ds : List D) (st : Sto) : R D := match ds with
  | [] => .no
  | d :: r => (match r with
    | [] => mthS1 s m d st
    | e :: q => (match q with
      | [] => mthS2 s m d e st
      | f :: p => (match p with | [] => mthS3 s m d e f st | _ :: _ => .no)))
/-- the kind has the method -/
def hasM : Kd → Mth → Bool
  | .lst, m => (match m with | .append | .extend | .pop => true | _ => false)
  | .str, m => (match m with | .join | .find => true | _ => false)
  | _, _ => false
def mthV (k : Kd) (m : Mth) (o : D) (ds : List D) (st : Sto) : R D := match k with
  | .lst => (match o with | .ref l => mthL l m ds st | _ => .no)
  | .dct => (match o with | .ref l => mthD l m ds st | _ => .no)
  | .tup => (match o with | .tup xs => mthT xs m ds st | _ => .no)
  | .str => (match o with | .str s => mthS s m ds st | _ => .no)
def isTy (t : Ty) (d : D) (st : Sto) : Option Bool := match d with
  | .non => some false
  | .bl _ => some (match t with | .int => true | .bool => true | _ => false)
  | .int _ => some (match t with | .int => true | _ => false)
  | .str _ => some (match t with | .str => true | _ => false)
  | .tup _ => some (match t with | .tuple => true | _ => false)
  | .ref l => (match sget st l with
    | some (.lst _) => some (match t with | .list => true | _ => false)
    | some (.dct _) => some false
    | _ => none)
  | .fn _ => none
  | .rol _ => none
def G.take (r : Ev) (g : G) (d : D) (env : Env) (st : Sto) : R Env := match g with
  | .nm i => .ok (env.put i d) st
  | .sub o i => (r.e o env st).bind fun x st => (r.e i env st).bind fun y st => (store x y d st).val.bind fun _ st => .ok env st
/-- replacing: the number says how many signs are passed over -/
def rplS (y z : List Nat) : Nat → List Nat → List Nat
  | _, [] => []
  | k, c :: r => (match k with
    | 0 => if (c :: r).take y.length == y then z ++ rplS y z (y.length - 1) r else c :: rplS y z 0 r
    | k + 1 => rplS y z k r)
/-- built-ins that walk one thing -/
def walks : Blt → Bool
  | .tuple | .list | .set | .dict | .sorted | .sum | .all | .any => true
  | _ => false
def inR62 (n : Int) : Bool := decide (n < 4611686018427387904) && decide (-4611686018427387904 ≤ n)
/-- a range's numbers -/
def rngR (e : E → Env → Sto → R D) (es : E) (env : Env) (st : Sto) : R (List D) := match es with
  | .cons a q => (match q with
    | .nil => (e a env st).bind fun x st => (match x with | .int n => if inR62 n then .ok (intsFrom 0 n.toNat) st else .no | _ => .no)
    | .cons b q => (match q with
      | .nil => (e a env st).bind fun x st => (e b env st).bind fun y st => (match x with
        | .int lo => (match y with | .int hi => if inR62 lo && inR62 hi then .ok (intsFrom lo (hi - lo).toNat) st else .no | _ => .no)
        | _ => .no)
      | _ => .no)
    | _ => .no)
  | _ => .no
/-- what is made of the arguments of a built-in -/
def bltA (b : Blt) (ds : List D) (st : Sto) : R D := if walks b then (match ds with
    | [] => .no
    | d :: r => (match r with
      | [] => (match rowOf d st with | some xs => bltI b xs st | none => .no)
      | _ :: _ => .no))
  else (match ds with
    | [] => .no
    | d :: r => (match r with
      | [] => (match b with
        | .max => (match rowOf d st with | some xs => bltI b xs st | none => .no)
        | .min => (match rowOf d st with | some xs => bltI b xs st | none => .no)
        | _ => bltV b ds st)
      | _ :: _ => bltV b ds st))
def oneE : E → E
  | .cons e q => (match q with | .nil => e | _ => .none)
  | _ => .none
/-- e, where it is the range of its arguments -/
def asRng : E → Option E
  | .blt b es => (match b with | .range => some es | _ => none)
  | _ => none
def step (P : List Fn) (k : Nat) (r rc : Ev) : Ev where
  e := fun e env st => match e with
    | .var i => okO st (env.get i)
    | .cst d => .ok d st
    | .glb _ d => .ok d st
    | .bin o a b => (r.e a env st).bind fun x st => (r.e b env st).bind fun y st => (binop o x y st).val
    | .neg a => (r.e a env st).bind fun x st => (match x with | .int i => .ok (.int (-i)) st | _ => .no)
    | .cmp o a b => (r.e a env st).bind fun x st => (r.e b env st).bind fun y st => ofB st (cmpop o x y st)
    | .cmp2 o p a b c => (r.e a env st).bind fun x st => (r.e b env st).bind fun y st => (match cmpop o x y st with
      | some true => (r.e c env st).bind fun z st => ofB st (cmpop p y z st)
      | some false => .ok (.bl false) st
      | none => .no)
    | .and a b => (r.e a env st).bind fun x st => (match x with | .bl true => r.e b env st | .bl false => .ok (.bl false) st | _ => .no)
    | .or a b => (r.e a env st).bind fun x st => (match x with | .bl false => r.e b env st | .bl true => .ok (.bl true) st | _ => .no)
    | .not a => (r.e a env st).bind fun x st => (match x with | .bl b => .ok (.bl (!b)) st | _ => .no)
    | .ifx c a b => (r.t c env st).bind fun x st => if x then r.e a env st else r.e b env st
    | .tup es => (r.es es env st).bind fun ds st => if small ds.length then .ok (.tup ds) st else .no
    | .lst es => (r.es es env st).bind fun ds st => if small ds.length then new (.lst ds) st else .no
    | .dic es => (r.es es env st).bind fun ds st => (match ds with | [] => new (.dct []) st | [k, v] => if (D.kk k).isSome then new (.dct [(k, v)]) st else .no | _ => .no)
    | .idx a i => (r.e a env st).bind fun x st => (r.e i env st).bind fun y st => (item x y st).val
    | .slc a lo hi => (r.e a env st).bind fun x st => (opt r.e lo env st).bind fun l st => (opt r.e hi env st).bind fun h st => (cut x l h st).val
    | .rev a => (r.e a env st).bind fun x st => (match x with
      | .ref l => (match sget st l with | some (.lst xs) => new (.lst xs.reverse) st | _ => .no)
      | _ => .no)
    | .rpl a y z => (r.e a env st).bind fun x st => (match x with
      | .str s => if Nat.ble 1 y.length && Nat.ble (s.length + (s.length + 1) * z.length) line then .ok (.str (ofChars (rplS y.cps.toList z.cps.toList 0 s.cps.toList))) st else .no
      | _ => .no)
    | .call f es => (r.es es env st).bind fun ds st => callF P rc f ds st
    | .blt b es => (match asRng (oneE es) with
      | some as => (rngR r.e as env st).bind fun xs st => (match b with
        | .list => if small xs.length then new (.lst xs) st else .no
        | .tuple => if small xs.length then .ok (.tup xs) st else .no
        | _ => .no)
      | none => (r.es es env st).bind fun ds st => (bltA b ds st).val)
    | .mth m o es => (r.e o env st).bind fun x st => (match kdOf x st with
      | some k => if hasM k m then (r.es es env st).bind fun ds st => (mthV k m x ds st).val else .no
      | none => .no)
    | .isi t e => (r.e e env st).bind fun x st => ofB st (isTy t x st)
    | .lc vs t it c e => locked (lockOf it env st) (fun st => (r.i it env st).bind fun it st => if small it.items.length then (lcGo r t c e (env.wipe vs) it.src it.items [] st).bind fun ds st => new (.lst ds) st else .no) st
    | .lc2 vs t it t' it' c e => (r.i it env st).bind fun it st => (lcOut r t it' t' c e (env.wipe vs) it.src it.items [] st).bind fun ds st => if small ds.length then new (.lst ds) st else .no
    | .dc vs t it k v => (r.i it env st).bind fun it st => (dcGo r t k v (env.wipe vs) it.src it.items [] st).bind fun kvs st => new (.dct kvs) st
    | _ => .no
  es := fun e env st => match e with
    | .nil => .ok [] st
    | .cons e q => (r.e e env st).bind fun d st => (r.es q env st).bind fun ds st => .ok (d :: ds) st
    | _ => .no
  t := fun e env st => match e with
    | .none => .ok true st
    | .and a b => (r.t a env st).bind fun x st => if x then r.t b env st else .ok false st
    | .or a b => (r.t a env st).bind fun x st => if x then .ok true st else r.t b env st
    | .not a => (r.t a env st).bind fun x st => .ok (!x) st
    | .val e => (r.e e env st).bind fun d st => okO st (truth st d)
    | _ => .no
  i := fun e env st => match e with
    | .blt b es => (match b with
      | .range => (rngR r.e es env st).bind fun xs st => .ok ⟨xs, [], false⟩ st
      | .enumerate => (match es with
        | .cons a .nil => (r.e a env st).bind fun d st => (match itOf d st with | some it => .ok ⟨numD 0 it.items, it.src, true⟩ st | none => .no)
        | _ => .no)
      | .zip => (match es with
        | .cons a (.cons b .nil) => (r.e a env st).bind fun d st => (r.e b env st).bind fun d' st => (match itOf d st with
          | some it => (match itOf d' st with | some it' => .ok ⟨zipD it.items it'.items, it.src ++ it'.src, true⟩ st | none => .no)
          | none => .no)
        | _ => .no)
      | _ => .no)
    | .mth m o es => (match m with
      | .items => (match es with
        | .nil => (r.e o env st).bind fun x st => (match x with
          | .ref l => (match sget st l with | some (.lck kvs) => .ok ⟨kvs.map fun p => .tup [p.1, p.2], [], true⟩ st | _ => .no)
          | _ => .no)
        | _ => .no)
      | .values => (match es with
        | .nil => (r.e o env st).bind fun x st => (match x with
          | .ref l => (match sget st l with | some (.lck kvs) => .ok ⟨kvs.map (·.2), [], false⟩ st | _ => .no)
          | _ => .no)
        | _ => .no)
      | _ => .no)
    | .val e => (r.e e env st).bind fun d st => okO st (itOf d st)
    | _ => .no
  s := fun s env st => match s with
    | .skip => .ok (.nx env) st
    | .seq a b => (r.s a env st).bind fun o st => (match o with | .nx env => r.s b env st | o => .ok o st)
    | .exp e => (r.e e env st).bind fun _ st => .ok (.nx env) st
    | .ret e => (r.e e env st).bind fun d st => .ok (.rt d) st
    | .retn => .ok (.rt .non) st
    | .brk => .ok (.bk env) st
    | .cnt => .ok (.ct env) st
    | .asg t e => (r.e e env st).bind fun d st => (match T.take t d env with | some env => .ok (.nx env) st | none => .no)
    | .sto o i e => (r.e e env st).bind fun d st => (r.e o env st).bind fun x st => (r.e i env st).bind fun y st => (store x y d st).val.bind fun _ st => .ok (.nx env) st
    | .aug i o e => (match env.get i with
      | some x => (r.e e env st).bind fun y st => (iop o x y st).val.bind fun z st => .ok (.nx (env.put i z)) st
      | none => .no)
    | .augs a i o e => (r.e a env st).bind fun x st => (r.e i env st).bind fun y st => (item x y st).val.bind fun z st => (r.e e env st).bind fun w st => (iop o z w st).val.bind fun v st => (store x y v st).val.bind fun _ st => .ok (.nx env) st
    | .par i j a b => (r.e a env st).bind fun x st => (r.e b env st).bind fun y st => .ok (.nx ((env.put i x).put j y)) st
    | .mul t u a b => (r.e a env st).bind fun d st => (r.e b env st).bind fun d' st => (G.take r t d env st).bind fun env st => (G.take r u d' env st).bind fun env st => .ok (.nx env) st
    | .ife c a b => (r.t c env st).bind fun x st => if x then r.s a env st else r.s b env st
    | .whl c b => whGo r c b k env st
    | .fr t it b => locked (lockOf it env st) (fun st => (r.i it env st).bind fun it st => frGo r t b it.src it.items env st) st
    | _ => .no
def ev (P : List Fn) : Nat → Nat → Ev
  | 0, _ => Ev.none
  | n + 1, c => step P n (ev P n c) (match c with | 0 => Ev.none | c + 1 => ev P n c)
def run (P : List Fn) (n c f : Nat) (ds : List D) : Option D := match callF P (ev P n c) f ds [] with
  | .ok d _ => some d
  | _ => none
end Ev
end

section
set_option Elab.async false
set_option linter.all false
set_option maxRecDepth 100000
set_option maxHeartbeats 1000000
/-! Snd1: plain data and the hand layer's heap: what stands for what. -/
namespace Ev
open PySem PySem.Spec L2

/-- a list that nobody writes -/
def Ro (K : PySem.W.Frag) (H : Hp) (a : Addr) (xs : List V) : Prop :=
  (∃ o, H a = some (.frz o (.lst xs))) ∨
    ∃ (o : Obj) (its : Array Value) (n : Nat), K.lookup a = some o ∧ o.cls = .type "list" ∧ o.dict = none ∧ o.data = .seq its n ∧ its.size ≤ sizeLine ∧ Vals xs its.toList
theorem Ro.seq {K : PySem.W.Frag} {H : Hp} {a : Addr} {xs : List V} (h : Ro K H a xs) : SqL K H a xs := h.elim (fun h => .inl (.inr h)) .inr
/-- a tuple's object -/
def tupO (its : List Value) : Obj := { cls := .type "tuple", data := .seq its.toArray }
section
variable (K : PySem.W.Frag) (μ : List Addr) (H : Hp)
mutual
/-- v stands for the datum -/
def Rep : D → V → Prop
  | .non, v => v = .non
  | .bl b, v => v = .bl b
  | .int i, v => v = .int i
  | .str s, v => v = .str s
  | .tup ds, v => ∃ a vs its, v = .ref a ∧ H a = some (.frz (tupO its) (.tup vs)) ∧ RepL ds vs
  | .ref l, v => ∃ a, μ[l]? = some a ∧ v = .ref a
  | .fn _, _ => False
  | .rol ns, v => ∃ a, v = .ref a ∧ Ro K H a (ns.map V.int)
def RepL : List D → List V → Prop
  | [], vs => vs = []
  | d :: ds, vs => ∃ v r, vs = v :: r ∧ Rep d v ∧ RepL ds r
end
def kD : Key → D
  | .inl i => .int i
  | .inr s => .str s
def KVR (kvs : List (D × D)) (l : List (Key × V)) : Prop := Paired (fun (p : D × D) (q : Key × V) => p.1 = kD q.1 ∧ Rep K μ H p.2 q.2) kvs l
/-- what stands at a place of the store -/
def ObjR (a : Addr) : O → Prop
  | .lst ds => ∃ vs, H a = some (.lst vs) ∧ RepL K μ H ds vs
  | .dct kvs => ∃ l, H a = some (.dK l) ∧ KVR K μ H kvs l
  | .lck kvs => ∃ ob l, H a = some (.frz ob (.dK l)) ∧ KVR K μ H kvs l
  | .set _ => False
  | .ins _ _ => False
structure StR (st : Sto) : Prop where
  len : μ.length = st.length
  nd : μ.Nodup
  ob : ∀ (l : Nat) (a : Addr) (o : O), μ[l]? = some a → st[l]? = some o → ObjR K μ H a o
structure EnvR (env : Env) (σ : L2.St) : Prop where
  len : env.length = σ.length
  at_ : ∀ (i : Nat) (d : D), env.get i = some d → ∃ v, σ[i]? = some (some v) ∧ Rep K μ H d v
end
/-- never written -/
def Imm : HO → Prop
  | .tup _ => True
  | .frz _ _ => True
  | _ => False
/-- the one heap behind the other -/
structure Le (μ : List Addr) (H : Hp) (μ' : List Addr) (H' : Hp) : Prop where
  pre : ∀ (l : Nat) (a : Addr), μ[l]? = some a → μ'[l]? = some a
  kp : ∀ a o, H a = some o → a ∉ μ → H' a = some o
  im : ∀ a o, H a = some o → Imm o → H' a = some o
  nw : ∀ a, a ∈ μ' → a ∉ μ → H a = none

section
variable {K : PySem.W.Frag} {μ μ' μ2 : List Addr} {H H' H2 : Hp} {st : Sto} {env : Env} {σ : L2.St}
theorem Le.refl : Le μ H μ H := ⟨fun _ _ h => h, fun _ _ h _ => h, fun _ _ h _ => h, fun a h n => absurd h n⟩
theorem Le.mem (L : Le μ H μ' H') {a : Addr} (h : a ∈ μ) : a ∈ μ' := by
  obtain ⟨i, hi⟩ := List.getElem?_of_mem h
  exact List.mem_of_getElem? (L.pre i a hi)
theorem Le.trans (L : Le μ H μ' H') (M : Le μ' H' μ2 H2) : Le μ H μ2 H2 where
  pre := fun l a h => M.pre l a (L.pre l a h)
  kp := fun a o h n => M.kp a o (L.kp a o h n) fun m => by
    have := L.nw a m n
    rw [h] at this
    cases this
  im := fun a o h i => M.im a o (L.im a o h i) i
  nw := fun a h n => by
    by_cases m : a ∈ μ'
    · exact L.nw a m n
    · cases e : H a with
      | none => rfl
      | some o =>
        have h1 := L.kp a o e n
        have h2 := M.nw a h m
        rw [h1] at h2
        cases h2
theorem Le.ro (L : Le μ H μ' H') {a : Addr} {xs : List V} (h : Ro K H a xs) : Ro K H' a xs := by
  rcases h with ⟨o, h⟩ | h
  · exact .inl ⟨o, L.im _ _ h trivial⟩
  · exact .inr h
theorem ro_im (hi : ∀ a o, H a = some o → Imm o → H' a = some o) {a : Addr} {xs : List V} (h : Ro K H a xs) : Ro K H' a xs := by
  rcases h with ⟨o, h⟩ | h
  · exact .inl ⟨o, hi _ _ h trivial⟩
  · exact .inr h
mutual
theorem Rep.mono0 (hp : ∀ (l : Nat) (a : Addr), μ[l]? = some a → μ'[l]? = some a) (hi : ∀ a o, H a = some o → Imm o → H' a = some o) : ∀ {d : D} {v : V}, Rep K μ H d v → Rep K μ' H' d v
  | .non, _, h => h
  | .bl _, _, h => h
  | .int _, _, h => h
  | .str _, _, h => h
  | .tup ds, _, h => by
    obtain ⟨a, vs, its, e, ha, r⟩ := h
    exact ⟨a, vs, its, e, hi _ _ ha trivial, RepL.mono0 hp hi r⟩
  | .ref l, _, h => by
    obtain ⟨a, h1, e⟩ := h
    exact ⟨a, hp _ _ h1, e⟩
  | .fn _, _, h => h
  | .rol ns, _, h => by
    obtain ⟨a, e, h⟩ := h
    exact ⟨a, e, ro_im hi h⟩
theorem RepL.mono0 (hp : ∀ (l : Nat) (a : Addr), μ[l]? = some a → μ'[l]? = some a) (hi : ∀ a o, H a = some o → Imm o → H' a = some o) : ∀ {ds : List D} {vs : List V}, RepL K μ H ds vs → RepL K μ' H' ds vs
  | [], _, h => h
  | d :: ds, _, h => by
    obtain ⟨v, r, e, h1, h2⟩ := h
    exact ⟨v, r, e, Rep.mono0 hp hi h1, RepL.mono0 hp hi h2⟩
end
theorem Rep.mono (L : Le μ H μ' H') {d : D} {v : V} (h : Rep K μ H d v) : Rep K μ' H' d v := h.mono0 L.pre L.im
theorem RepL.mono (L : Le μ H μ' H') {ds : List D} {vs : List V} (h : RepL K μ H ds vs) : RepL K μ' H' ds vs := h.mono0 L.pre L.im
theorem RepL.iff : ∀ {ds : List D} {vs : List V}, RepL K μ H ds vs ↔ Paired (Rep K μ H) ds vs
  | [], vs => ⟨fun h => by cases (show vs = [] from h); exact .nil, fun h => by cases h; rfl⟩
  | d :: ds, vs => ⟨fun h => by
      obtain ⟨v, r, rfl, h1, h2⟩ := h
      exact .cons h1 (RepL.iff.mp h2), fun h => by
      cases h with
      | cons h1 h2 => exact ⟨_, _, rfl, h1, RepL.iff.mpr h2⟩⟩
end
/-! ### rows in pairs -/
namespace Pr
variable {α β : Type} {F : α → β → Prop}
theorem get : ∀ {xs : List α} {ys : List β} {i : Nat} {x : α}, Paired F xs ys → xs[i]? = some x → ∃ y, ys[i]? = some y ∧ F x y
  | _, _, _, _, .nil, e => by simp at e
  | _, _, 0, _, .cons r _, e => by simp at e; subst e; exact ⟨_, rfl, r⟩
  | _, _, i + 1, x, .cons _ t, e => by
    obtain ⟨u, h1, h2⟩ := get (i := i) (x := x) t (by simpa using e)
    exact ⟨u, by simpa using h1, h2⟩
theorem app : ∀ {xs : List α} {ys : List β} {us : List α} {vs : List β}, Paired F xs ys → Paired F us vs → Paired F (xs ++ us) (ys ++ vs)
  | _, _, _, _, .nil, h => h
  | _, _, _, _, .cons r t, h => .cons r (app t h)
theorem take : ∀ {xs : List α} {ys : List β} (n : Nat), Paired F xs ys → Paired F (xs.take n) (ys.take n)
  | _, _, 0, _ => by simp; exact .nil
  | _, _, _ + 1, .nil => .nil
  | _, _, n + 1, .cons r t => .cons r (take n t)
theorem drop : ∀ {xs : List α} {ys : List β} (n : Nat), Paired F xs ys → Paired F (xs.drop n) (ys.drop n)
  | _, _, 0, h => h
  | _, _, _ + 1, .nil => .nil
  | _, _, n + 1, .cons _ t => drop n t
theorem rev {xs : List α} {ys : List β} (h : Paired F xs ys) : Paired F xs.reverse ys.reverse := by
  induction h with
  | nil => exact .nil
  | cons r t ih =>
    rw [List.reverse_cons, List.reverse_cons]
    exact app ih (.cons r .nil)
theorem set : ∀ {xs : List α} {ys : List β} (i : Nat) {x : α} {y : β}, Paired F xs ys → F x y → Paired F (xs.set i x) (ys.set i y)
  | _, _, _, _, _, .nil, _ => .nil
  | _, _, 0, _, _, .cons _ t, r => .cons r t
  | _, _, i + 1, _, _, .cons q t, r => .cons q (set i t r)
theorem eraseIdx : ∀ {xs : List α} {ys : List β} (i : Nat), Paired F xs ys → Paired F (xs.eraseIdx i) (ys.eraseIdx i)
  | _, _, _, .nil => .nil
  | _, _, 0, .cons _ t => t
  | _, _, i + 1, .cons r t => .cons r (eraseIdx i t)
theorem rep {xs : List α} {ys : List β} (h : Paired F xs ys) : ∀ k : Nat, Paired F (Ev.rep xs k) (Ev.rep ys k)
  | 0 => .nil
  | k + 1 => app h (rep h k)
theorem imp {G : α → β → Prop} : ∀ {xs : List α} {ys : List β}, Paired F xs ys → (∀ a b, F a b → G a b) → Paired G xs ys
  | _, _, .nil, _ => .nil
  | _, _, .cons r t, h => .cons (h _ _ r) (imp t h)
theorem nil_iff {xs : List α} {ys : List β} (h : Paired F xs ys) : xs = [] ↔ ys = [] := by
  cases h with
  | nil => simp
  | cons _ _ => simp
end Pr
/-! ### the runner's own list functions -/
theorem nth_eq {α : Type} : ∀ (xs : List α) (i : Nat), nth xs i = xs[i]?
  | [], i => by simp [nth]
  | x :: r, 0 => rfl
  | x :: r, i + 1 => by simp [nth, nth_eq r i]
theorem sget_eq : ∀ (st : Sto) (i : Nat), sget st i = st[i]?
  | [], i => by simp [sget]
  | x :: r, 0 => rfl
  | x :: r, i + 1 => by simp [sget, sget_eq r i]
theorem sput_eq : ∀ (st : Sto) (i : Nat) (o : O), sput st i o = st.set i o
  | [], i, o => by simp [sput]
  | x :: r, 0, o => rfl
  | x :: r, i + 1, o => by simp [sput, sput_eq r i o]
theorem slen_eq : ∀ st : Sto, slen st = st.length
  | [] => rfl
  | x :: r => by simp [slen, slen_eq r]
theorem setN_eq {α : Type} : ∀ (xs : List α) (i : Nat) (y : α), setN xs i y = xs.set i y
  | [], i, o => by simp [setN]
  | x :: r, 0, o => rfl
  | x :: r, i + 1, o => by simp [setN, setN_eq r i o]
theorem delIx_eq {α : Type} : ∀ (xs : List α) (i : Nat), delIx xs i = xs.eraseIdx i
  | [], i => by simp [delIx]
  | x :: r, 0 => rfl
  | x :: r, i + 1 => by simp [delIx, delIx_eq r i]
theorem rep_len {α : Type} (xs : List α) : ∀ k, (rep xs k).length = xs.length * k
  | 0 => rfl
  | k + 1 => by rw [rep, List.length_append, rep_len xs k, Nat.mul_succ]; omega
theorem small_iff {n : Nat} (h : small n = true) : n ≤ sizeLine := by
  have : n ≤ line := by simpa [small] using h
  rw [sizeLine_eq]
  exact this
/-! ### the environment -/
theorem Env.put_len : ∀ (env : Env) (i : Nat) (d : D), (env.put i d).length = env.length
  | [], _, _ => rfl
  | _ :: _, 0, _ => rfl
  | _ :: r, i + 1, d => by simp [Env.put, Env.put_len r i d]
theorem Env.put_same : ∀ (env : Env) (i : Nat) (d : D), i < env.length → (env.put i d).get i = some d
  | [], _, _, h => by simp at h
  | _ :: _, 0, _, _ => rfl
  | _ :: r, i + 1, d, h => by simpa [Env.put, Env.get] using Env.put_same r i d (by simpa using h)
theorem Env.put_other : ∀ (env : Env) (i j : Nat) (d : D), j ≠ i → (env.put i d).get j = env.get j
  | [], _, _, _, _ => rfl
  | _ :: _, 0, 0, _, h => absurd rfl h
  | _ :: _, 0, j + 1, _, _ => rfl
  | _ :: _, i + 1, 0, _, _ => rfl
  | _ :: r, i + 1, j + 1, d, h => by simpa [Env.put, Env.get] using Env.put_other r i j d (by omega)
theorem Env.get_lt : ∀ {env : Env} {i : Nat} {d : D}, env.get i = some d → i < env.length
  | [], _, _, h => by simp [Env.get] at h
  | _ :: _, 0, _, _ => by simp
  | _ :: r, i + 1, d, h => by simpa using Env.get_lt (env := r) (i := i) (d := d) (by simpa [Env.get] using h)
theorem Env.cut_len : ∀ (env : Env) (i : Nat), (env.cut i).length = env.length
  | [], _ => rfl
  | _ :: _, 0 => rfl
  | _ :: r, i + 1 => by simp [Env.cut, Env.cut_len r i]
theorem Env.cut_get : ∀ {env : Env} {i j : Nat} {d : D}, (env.cut i).get j = some d → j ≠ i ∧ env.get j = some d
  | [], _, _, _, h => by simp [Env.cut, Env.get] at h
  | _ :: _, 0, 0, _, h => by simp [Env.cut, Env.get] at h
  | _ :: _, 0, j + 1, _, h => ⟨by omega, by simpa [Env.cut, Env.get] using h⟩
  | _ :: _, i + 1, 0, _, h => ⟨by omega, by simpa [Env.cut, Env.get] using h⟩
  | _ :: r, i + 1, j + 1, d, h => by
    obtain ⟨h1, h2⟩ := Env.cut_get (env := r) (i := i) (j := j) (d := d) (by simpa [Env.cut, Env.get] using h)
    exact ⟨by omega, by simpa [Env.get] using h2⟩
theorem Env.wipe_len (env : Env) : ∀ vs : List Nat, (env.wipe vs).length = env.length
  | [] => rfl
  | v :: vs => by rw [Env.wipe, Env.cut_len, Env.wipe_len env vs]
theorem Env.wipe_get {env : Env} {j : Nat} {d : D} : ∀ {vs : List Nat}, (env.wipe vs).get j = some d → j ∉ vs ∧ env.get j = some d
  | [], h => ⟨by simp, h⟩
  | v :: vs, h => by
    obtain ⟨h1, h2⟩ := Env.cut_get (show ((env.wipe vs).cut v).get j = some d from h)
    obtain ⟨h3, h4⟩ := Env.wipe_get h2
    exact ⟨by simp [h1, h3], h4⟩
section
variable {K : PySem.W.Frag} {μ μ' μ2 : List Addr} {H H' H2 : Hp} {st : Sto} {env : Env} {σ : L2.St}
theorem EnvR.mono (L : Le μ H μ' H') (h : EnvR K μ H env σ) : EnvR K μ' H' env σ := ⟨h.len, fun i d e => by
  obtain ⟨v, h1, h2⟩ := h.at_ i d e
  exact ⟨v, h1, h2.mono L⟩⟩
theorem EnvR.put {i : Nat} {d : D} {v : V} (h : EnvR K μ H env σ) (r : Rep K μ H d v) : EnvR K μ H (env.put i d) (σ.set i (some v)) := by
  refine ⟨by rw [Env.put_len, List.length_set, h.len], fun j e he => ?_⟩
  by_cases hj : j = i
  · subst hj
    have hl := Env.get_lt he
    rw [Env.put_len] at hl
    rw [Env.put_same _ _ _ hl] at he
    cases he
    exact ⟨v, by rw [List.getElem?_set_self (by rw [← h.len]; exact hl)], r⟩
  · rw [Env.put_other _ _ _ _ hj] at he
    obtain ⟨w, h1, h2⟩ := h.at_ j e he
    exact ⟨w, by rw [List.getElem?_set_ne (Ne.symm hj)]; exact h1, h2⟩
theorem wipe_get {σ : L2.St} {j : Nat} {x : Option V} : ∀ {vs : List Nat}, j ∉ vs → σ[j]? = some x → (L2.wipe σ vs)[j]? = some x
  | [], _, h => h
  | v :: vs, hn, h => by
    simp only [List.mem_cons, not_or] at hn
    unfold L2.wipe
    rw [List.getElem?_set_ne (Ne.symm hn.1)]
    exact wipe_get hn.2 h
theorem EnvR.wipe (h : EnvR K μ H env σ) (vs : List Nat) : EnvR K μ H (env.wipe vs) (L2.wipe σ vs) := by
  refine ⟨by rw [Env.wipe_len, L2.wipe_length, h.len], fun j d e => ?_⟩
  obtain ⟨h1, h2⟩ := Env.wipe_get e
  obtain ⟨v, h3, h4⟩ := h.at_ j d h2
  exact ⟨v, wipe_get h1 h3, h4⟩
/-! ### the store -/
theorem nodup_ix' {N : List Addr} (hN : N.Nodup) {i j : Nat} {x : Addr} (a : N[i]? = Option.some x) (b : N[j]? = Option.some x) : i = j := by
  obtain ⟨h1, e1⟩ := List.getElem?_eq_some_iff.mp a
  obtain ⟨h2, e2⟩ := List.getElem?_eq_some_iff.mp b
  exact (List.getElem_inj hN).mp (e1.trans e2.symm)
theorem ObjR.isHo {a : Addr} {o : O} (h : ObjR K μ H a o) : ∃ ho, H a = Option.some ho := by
  cases o with
  | lst ds =>
    obtain ⟨vs, h, _⟩ := h
    exact ⟨_, h⟩
  | dct kvs =>
    obtain ⟨l, h, _⟩ := h
    exact ⟨_, h⟩
  | lck kvs =>
    obtain ⟨ob, l, h, _⟩ := h
    exact ⟨_, h⟩
  | set _ => exact h.elim
  | ins _ _ => exact h.elim
theorem StR.isHo (S : StR K μ H st) {a : Addr} (h : a ∈ μ) : ∃ ho, H a = Option.some ho := by
  obtain ⟨l, hl⟩ := List.getElem?_of_mem h
  have hlt : l < st.length := by
    rw [← S.len]
    exact (List.getElem?_eq_some_iff.mp hl).1
  exact (S.ob l a st[l] hl (List.getElem?_eq_getElem hlt)).isHo
theorem StR.fresh (S : StR K μ H st) {p : Addr} (h : H p = none) : p ∉ μ := fun m => by
  obtain ⟨ho, e⟩ := S.isHo m
  rw [h] at e
  cases e
/-- a new thing that is none of the store's -/
theorem le_new (S : StR K μ H st) {p : Addr} (h : H p = none) (o : HO) : Le μ H μ (upd H p o) :=
  ⟨fun _ _ e => e, fun a x e _ => by rw [upd_ne (ne_of_none e h)]; exact e, fun a x e _ => by rw [upd_ne (ne_of_none e h)]; exact e, fun a m n => absurd m n⟩
/-- a new thing of the store -/
theorem le_lay (S : StR K μ H st) {p : Addr} (h : H p = none) (o : HO) : Le μ H (μ ++ [p]) (upd H p o) :=
  ⟨fun l a e => by rw [List.getElem?_append_left (List.getElem?_eq_some_iff.mp e).1]; exact e, fun a x e _ => by rw [upd_ne (ne_of_none e h)]; exact e, fun a x e _ => by rw [upd_ne (ne_of_none e h)]; exact e,
    fun a m n => by
      rcases List.mem_append.mp m with m | m
      · exact absurd m n
      · rw [List.mem_singleton.mp m]; exact h⟩
/-- a thing of the store is written -/
theorem le_put {l : Nat} {a : Addr} {u : HO} (hl : μ[l]? = Option.some a) (hu : H a = Option.some u) (ni : ¬ Imm u) (o : HO) : Le μ H μ (upd H a o) := by
  have m : a ∈ μ := List.mem_of_getElem? hl
  refine ⟨fun _ _ e => e, fun b x e n => ?_, fun b x e i => ?_, fun a m n => absurd m n⟩
  · rw [upd_ne (show b ≠ a from fun z => n (by rw [z]; exact m))]; exact e
  · rw [upd_ne (show b ≠ a from fun z => by rw [z, hu] at e; cases e; exact ni i)]; exact e
theorem KVR.mono {kvs : List (D × D)} {l : List (Key × V)} (L : Le μ H μ' H') (h : KVR K μ H kvs l) : KVR K μ' H' kvs l := Pr.imp h fun _ _ r => ⟨r.1, r.2.mono L⟩
theorem ObjR.mono {a : Addr} {o : O} (L : Le μ H μ' H') (e : H' a = H a) (h : ObjR K μ H a o) : ObjR K μ' H' a o := by
  cases o with
  | lst ds =>
    obtain ⟨vs, h, r⟩ := h
    exact ⟨vs, e.trans h, r.mono L⟩
  | dct kvs =>
    obtain ⟨l, h, r⟩ := h
    exact ⟨l, e.trans h, r.mono L⟩
  | lck kvs =>
    obtain ⟨ob, l, h, r⟩ := h
    exact ⟨ob, l, e.trans h, r.mono L⟩
  | set _ => exact h
  | ins _ _ => exact h
theorem StR.new (S : StR K μ H st) {p : Addr} (h : H p = none) (o : HO) : StR K μ (upd H p o) st := ⟨S.len, S.nd, fun l a x e1 e2 => by
  have hp : a ≠ p := fun z => S.fresh h (z ▸ List.mem_of_getElem? e1)
  exact (S.ob l a x e1 e2).mono (le_new S h o) (upd_ne hp)⟩
theorem StR.lay (S : StR K μ H st) {p : Addr} (h : H p = none) {o : O} {ho : HO} (r : ObjR K (μ ++ [p]) (upd H p ho) p o) : StR K (μ ++ [p]) (upd H p ho) (st ++ [o]) := by
  have hp := S.fresh h
  refine ⟨by simp [S.len], ?_, fun l a x e1 e2 => ?_⟩
  · rw [List.nodup_append]
    refine ⟨S.nd, by simp, fun a ha b hb => ?_⟩
    rw [List.mem_singleton.mp hb]
    exact fun z => hp (z ▸ ha)
  · by_cases hl : l < μ.length
    · rw [List.getElem?_append_left hl] at e1
      rw [List.getElem?_append_left (by rw [← S.len]; exact hl)] at e2
      exact (S.ob l a x e1 e2).mono (le_lay S h ho) (upd_ne fun z => hp (z ▸ List.mem_of_getElem? e1))
    · have hl2 : l = μ.length := by
        have := (List.getElem?_eq_some_iff.mp e1).1
        simp at this
        omega
      subst hl2
      rw [List.getElem?_append_right (Nat.le_refl _)] at e1
      rw [S.len, List.getElem?_append_right (Nat.le_refl _)] at e2
      simp at e1 e2
      subst e1 e2
      exact r
theorem StR.put (S : StR K μ H st) {l : Nat} {a : Addr} {u : HO} (hl : μ[l]? = Option.some a) (hu : H a = Option.some u) (ni : ¬ Imm u) {o : O} {ho : HO} (r : ObjR K μ (upd H a ho) a o) : StR K μ (upd H a ho) (st.set l o) := by
  refine ⟨by simp [S.len], S.nd, fun k b x e1 e2 => ?_⟩
  by_cases hk : k = l
  · subst hk
    rw [hl] at e1
    cases e1
    have := (List.getElem?_eq_some_iff.mp e2).1
    rw [List.length_set] at this
    rw [List.getElem?_set_self this] at e2
    cases e2
    exact r
  · rw [List.getElem?_set_ne (Ne.symm hk)] at e2
    have hb : b ≠ a := fun z => by
      subst z
      exact hk (nodup_ix' S.nd e1 hl)
    exact (S.ob k b x e1 e2).mono (le_put hl hu ni ho) (upd_ne hb)
/-! ### a list that stands outside of the store -/
theorem im_out {D : Addr} {u : HO} (h : H D = some u) (ni : ¬ Imm u) (o : HO) : ∀ a x, H a = some x → Imm x → upd H D o a = some x := fun a x e i => by
  rw [upd_ne (fun z => by rw [z, h] at e; cases e; exact ni i)]
  exact e
theorem ObjR.mono0 {a : Addr} {o : O} (hp : ∀ (l : Nat) (a : Addr), μ[l]? = some a → μ'[l]? = some a) (hi : ∀ a o, H a = some o → Imm o → H' a = some o) (e : H' a = H a) (h : ObjR K μ H a o) : ObjR K μ' H' a o := by
  cases o with
  | lst ds =>
    obtain ⟨vs, h, r⟩ := h
    exact ⟨vs, e.trans h, r.mono0 hp hi⟩
  | dct kvs =>
    obtain ⟨l, h, r⟩ := h
    exact ⟨l, e.trans h, Pr.imp r fun _ _ r => ⟨r.1, r.2.mono0 hp hi⟩⟩
  | lck kvs =>
    obtain ⟨ob, l, h, r⟩ := h
    exact ⟨ob, l, e.trans h, Pr.imp r fun _ _ r => ⟨r.1, r.2.mono0 hp hi⟩⟩
  | set _ => exact h
  | ins _ _ => exact h
theorem StR.out (S : StR K μ H st) {D : Addr} {u : HO} (h : H D = some u) (ni : ¬ Imm u) (n : D ∉ μ) (o : HO) : StR K μ (upd H D o) st := ⟨S.len, S.nd, fun l a x e1 e2 =>
  (S.ob l a x e1 e2).mono0 (fun _ _ z => z) (im_out h ni o) (upd_ne fun z => n (z ▸ List.mem_of_getElem? e1))⟩
theorem Le.out (L : Le μ H μ' H') {D : Addr} (h : H D = none) (o : HO) : Le μ H μ' (upd H' D o) :=
  ⟨L.pre, fun a x e n => by rw [upd_ne (ne_of_none e h)]; exact L.kp a x e n, fun a x e i => by rw [upd_ne (ne_of_none e h)]; exact L.im a x e i, L.nw⟩
theorem StR.add (S : StR K μ H st) {D : Addr} (n : D ∉ μ) {o : O} (r : ObjR K (μ ++ [D]) H D o) : StR K (μ ++ [D]) H (st ++ [o]) := by
  have pre : ∀ (l : Nat) (a : Addr), μ[l]? = some a → (μ ++ [D])[l]? = some a := fun l a e => by
    rw [List.getElem?_append_left (List.getElem?_eq_some_iff.mp e).1]
    exact e
  refine ⟨by simp [S.len], ?_, fun l a x e1 e2 => ?_⟩
  · rw [List.nodup_append]
    refine ⟨S.nd, by simp, fun a ha b hb => ?_⟩
    rw [List.mem_singleton.mp hb]
    exact fun z => n (z ▸ ha)
  · by_cases hl : l < μ.length
    · rw [List.getElem?_append_left hl] at e1
      rw [List.getElem?_append_left (by rw [← S.len]; exact hl)] at e2
      exact (S.ob l a x e1 e2).mono0 pre (fun _ _ e _ => e) rfl
    · have hl2 : l = μ.length := by
        have := (List.getElem?_eq_some_iff.mp e1).1
        simp at this
        omega
      subst hl2
      rw [List.getElem?_append_right (Nat.le_refl _)] at e1
      rw [S.len, List.getElem?_append_right (Nat.le_refl _)] at e2
      simp at e1 e2
      subst e1 e2
      exact r
theorem Le.add (L : Le μ H μ' H') {D : Addr} (h : H D = none) : Le μ H (μ' ++ [D]) H' :=
  ⟨fun l a e => by have := L.pre l a e; rw [List.getElem?_append_left (List.getElem?_eq_some_iff.mp this).1]; exact this, L.kp, L.im, fun a m n => by
    rcases List.mem_append.mp m with m | m
    · exact L.nw a m n
    · rw [List.mem_singleton.mp m]; exact h⟩
end
end Ev
end

section
set_option Elab.async false
set_option linter.all false
set_option maxRecDepth 100000
set_option maxHeartbeats 1000000
/-! Snd2: plain data as the library's data. -/
namespace Ev
open PySem PySem.Spec L2
mutual
def toP : D → PyData
  | .non => .none
  | .bl b => .bool b
  | .int i => .int i
  | .str s => .str s
  | .tup xs => .tuple (toPL xs)
  | .ref _ => .none
  | .fn _ => .none
  | .rol _ => .none
def toPL : List D → List PyData
  | [] => []
  | x :: xs => toP x :: toPL xs
end
theorem toPL_map : ∀ xs : List D, toPL xs = xs.map toP
  | [] => rfl
  | x :: xs => by rw [toPL, toPL_map xs, List.map_cons]
theorem sEq_eq (a b : Str) : sEq a b = (a == b) := by
  rw [Bool.eq_iff_iff]
  unfold sEq
  simp only [beq_iff_eq]
  constructor
  · intro h
    exact PySem.W.str_of_cps h
  · intro h
    rw [h]
theorem b_and {a b : Bool} (h : (a && b) = true) : a = true ∧ b = true := Bool.and_eq_true_iff.mp h
mutual
theorem pl_plain : ∀ (k : Nat) (d : D), D.pl k d = true → (toP d).plain = true ∧ (toP d).depth ≤ k
  | k, .non, _ => by simp [toP, PyData.plain, PyData.depth]
  | k, .bl _, _ => by simp [toP, PyData.plain, PyData.depth]
  | k, .int _, _ => by simp [toP, PyData.plain, PyData.depth]
  | k, .str _, _ => by simp [toP, PyData.plain, PyData.depth]
  | k, .ref _, h => by simp [D.pl] at h
  | k, .fn _, h => by simp [D.pl] at h
  | k, .rol _, h => by simp [D.pl] at h
  | 0, .tup xs, h => by simp [D.pl] at h
  | k + 1, .tup xs, h => by
    obtain ⟨h1, h2⟩ := plL_plain k xs (by simpa [D.pl] using h)
    rw [toP, PyData.plain, PyData.depth]
    exact ⟨h1, by omega⟩
theorem plL_plain : ∀ (k : Nat) (ds : List D), D.plL k ds = true → PyData.plainAll (toPL ds) = true ∧ PyData.depthAll (toPL ds) ≤ k
  | k, [], _ => by simp [toPL, PyData.plainAll, PyData.depthAll]
  | k, x :: xs, h => by
    obtain ⟨h1, h2⟩ := b_and (show (D.pl k x && D.plL k xs) = true by simpa [D.plL] using h)
    obtain ⟨a1, a2⟩ := pl_plain k x h1
    obtain ⟨b1, b2⟩ := plL_plain k xs h2
    rw [toPL, PyData.plainAll, PyData.depthAll]
    exact ⟨by rw [a1, b1]; rfl, by omega⟩
end
theorem plL_mem {k : Nat} : ∀ {ds : List D} {d : D}, D.plL k ds = true → d ∈ ds → D.pl k d = true
  | [], _, _, h => by cases h
  | x :: xs, d, h, hm => by
    obtain ⟨h1, h2⟩ := b_and (show (D.pl k x && D.plL k xs) = true by simpa [D.plL] using h)
    rcases List.mem_cons.mp hm with rfl | hm
    · exact h1
    · exact plL_mem h2 hm
mutual
theorem eqv_eq : ∀ (k j : Nat) (x y : D), D.pl k x = true → D.pl j y = true → D.eqv x y = PyData.eqv (toP x) (toP y)
  | _, _, .non, y, _, h => by cases y <;> first | (simp [D.pl] at h; done) | simp [D.eqv, toP, PyData.eqv]
  | _, _, .bl a, y, _, h => by cases y <;> first | (simp [D.pl] at h; done) | simp [D.eqv, toP, PyData.eqv]
  | _, _, .int a, y, _, h => by cases y <;> first | (simp [D.pl] at h; done) | simp [D.eqv, toP, PyData.eqv]
  | _, _, .str a, y, _, h => by cases y <;> first | (simp [D.pl] at h; done) | simp [D.eqv, toP, PyData.eqv, sEq_eq]
  | _, _, .ref _, _, h, _ => by simp [D.pl] at h
  | _, _, .fn _, _, h, _ => by simp [D.pl] at h
  | _, _, .rol _, _, h, _ => by simp [D.pl] at h
  | 0, _, .tup xs, _, h, _ => by simp [D.pl] at h
  | k + 1, 0, .tup xs, y, h1, h => by cases y <;> first | (simp [D.pl] at h; done) | simp [D.eqv, toP, PyData.eqv]
  | k + 1, j + 1, .tup xs, y, h1, h => by
    cases y with
    | tup ys =>
      rw [D.eqv, toP, toP, PyData.eqv]
      exact eqvL_eq k j xs ys (by simpa [D.pl] using h1) (by simpa [D.pl] using h)
    | _ => first | (simp [D.pl] at h; done) | simp [D.eqv, toP, PyData.eqv]
theorem eqvL_eq : ∀ (k j : Nat) (xs ys : List D), D.plL k xs = true → D.plL j ys = true → D.eqvL xs ys = PyData.eqvAll (toPL xs) (toPL ys)
  | _, _, [], ys, _, _ => by cases ys <;> simp [D.eqvL, toPL, PyData.eqvAll]
  | _, _, x :: xs, [], _, _ => by simp [D.eqvL, toPL, PyData.eqvAll]
  | k, j, x :: xs, y :: ys, h1, h2 => by
    obtain ⟨a1, a2⟩ := b_and (show (D.pl k x && D.plL k xs) = true by simpa [D.plL] using h1)
    obtain ⟨b1, b2⟩ := b_and (show (D.pl j y && D.plL j ys) = true by simpa [D.plL] using h2)
    rw [D.eqvL, toPL, toPL, PyData.eqvAll, eqv_eq k j x y a1 b1, eqvL_eq k j xs ys a2 b2]
end
theorem anyEq_eq {k j : Nat} {x : D} (hx : D.pl k x = true) : ∀ {ys : List D}, D.plL j ys = true → anyEq x ys = (toPL ys).any fun y => PyData.eqv y (toP x)
  | [], _ => rfl
  | y :: ys, h => by
    obtain ⟨b1, b2⟩ := b_and (show (D.pl j y && D.plL j ys) = true by simpa [D.plL] using h)
    rw [anyEq, toPL, List.any_cons, eqv_eq j k y x b1 hx, anyEq_eq hx b2]
mutual
theorem alike_eq : ∀ (x y : D), D.alike x y = true → PySem.W.alike (toP x) (toP y) = true
  | .non, y, h => by cases y <;> simp [D.alike] at h <;> simp [toP, PySem.W.alike]
  | .bl a, y, h => by cases y <;> simp [D.alike] at h <;> simp [toP, PySem.W.alike]
  | .int a, y, h => by cases y <;> simp [D.alike] at h <;> simp [toP, PySem.W.alike]
  | .str a, y, h => by cases y <;> simp [D.alike] at h <;> simp [toP, PySem.W.alike]
  | .ref _, _, h => by simp [D.alike] at h
  | .fn _, _, h => by simp [D.alike] at h
  | .rol _, _, h => by simp [D.alike] at h
  | .tup xs, y, h => by
    cases y with
    | tup ys =>
      rw [toP, toP, PySem.W.alike]
      exact alikeL_eq xs ys (by simpa [D.alike] using h)
    | _ => simp [D.alike] at h
theorem alikeL_eq : ∀ (xs ys : List D), D.alikeL xs ys = true → PySem.W.alikeAll (toPL xs) (toPL ys) = true
  | [], ys, _ => by cases ys <;> simp [toPL, PySem.W.alikeAll]
  | x :: xs, [], _ => by simp [toPL, PySem.W.alikeAll]
  | x :: xs, y :: ys, h => by
    obtain ⟨a1, a2⟩ := b_and (show (D.alike x y && D.alikeL xs ys) = true by simpa [D.alikeL] using h)
    rw [toPL, toPL, PySem.W.alikeAll, alike_eq x y a1, alikeL_eq xs ys a2]
    rfl
end
theorem lexN_eq : ∀ xs ys : List Nat, lexN xs ys = decide (xs < ys)
  | [], [] => by simp [lexN]
  | [], y :: ys => by simp [lexN]
  | x :: xs, [] => by simp [lexN]
  | x :: xs, y :: ys => by
    rw [lexN, lexN_eq xs ys]
    by_cases h : x = y
    · subst h
      simp [List.cons_lt_cons_iff]
    · have hb : (x == y) = false := by simpa using h
      rw [hb]
      simp only [Bool.false_eq_true, if_false]
      rw [Bool.eq_iff_iff]
      simp [List.cons_lt_cons_iff, h]
mutual
theorem lt_eq : ∀ (k j : Nat) (x y : D) (b : Bool), D.pl k x = true → D.pl j y = true → D.alike x y = true → D.lt x y = some b → PySem.W.dataLt (toP x) (toP y) = b
  | _, _, .non, y, b, _, _, _, h => by cases y <;> simp [D.lt] at h
  | _, _, .bl a, y, b, _, _, al, h => by
    cases y <;> simp [D.alike] at al
    rename_i b0 c
    rw [D.lt] at h
    rw [toP, toP, PySem.W.dataLt_bool, ← Option.some.inj h]
    cases a <;> cases b0 <;> rfl
  | _, _, .int a, y, b, _, _, al, h => by
    cases y <;> simp [D.alike] at al
    rename_i c
    rw [D.lt] at h
    rw [toP, toP, PySem.W.dataLt_int, ← Option.some.inj h]
  | _, _, .str a, y, b, _, _, al, h => by
    cases y <;> simp [D.alike] at al
    rename_i c
    rw [D.lt] at h
    rw [toP, toP, PySem.W.dataLt_str, ← Option.some.inj h, lexN_eq]
  | _, _, .ref _, _, _, _, _, al, _ => by simp [D.alike] at al
  | _, _, .fn _, _, _, _, _, al, _ => by simp [D.alike] at al
  | _, _, .rol _, _, _, _, _, al, _ => by simp [D.alike] at al
  | 0, _, .tup xs, _, _, h, _, _, _ => by simp [D.pl] at h
  | k + 1, j, .tup xs, y, b, hx, hy, al, h => by
    cases y with
    | tup ys =>
      cases j with
      | zero => simp [D.pl] at hy
      | succ j =>
        rw [toP, toP, PySem.W.dataLt_tuple]
        exact ltL_eq k j xs ys b (by simpa [D.pl] using hx) (by simpa [D.pl] using hy) (by simpa [D.alike] using al) (by simpa [D.lt] using h)
    | _ => simp [D.alike] at al
theorem ltL_eq : ∀ (k j : Nat) (xs ys : List D) (b : Bool), D.plL k xs = true → D.plL j ys = true → D.alikeL xs ys = true → D.ltL xs ys = some b →
    PyProof.Rows.lexLt PyProof.Rows.itemOrd (PySem.W.keyToksAll (toPL xs)) (PySem.W.keyToksAll (toPL ys)) = b
  | _, _, [], [], b, _, _, _, h => by
    rw [D.ltL] at h
    rw [← Option.some.inj h]
    decide
  | _, _, [], y :: ys, b, _, _, _, h => by
    rw [D.ltL] at h
    rw [← Option.some.inj h, toPL, toPL, PySem.W.toks_all_cons]
    rw [show PySem.W.keyToksAll [] = [Sum.inl 0] from rfl, PySem.W.lex_atom (by simp)]
    decide
  | _, _, x :: xs, [], b, _, _, _, h => by
    rw [D.ltL] at h
    rw [← Option.some.inj h, toPL, toPL, PySem.W.toks_all_cons]
    rw [show PySem.W.keyToksAll [] = [Sum.inl 0] from rfl, PySem.W.lex_atom (by simp)]
    decide
  | k, j, x :: xs, y :: ys, b, hx, hy, al, h => by
    obtain ⟨a1, a2⟩ := b_and (show (D.pl k x && D.plL k xs) = true by simpa [D.plL] using hx)
    obtain ⟨b1, b2⟩ := b_and (show (D.pl j y && D.plL j ys) = true by simpa [D.plL] using hy)
    obtain ⟨c1, c2⟩ := b_and (show (D.alike x y && D.alikeL xs ys) = true by simpa [D.alikeL] using al)
    have ha := alike_eq x y c1
    have he := eqv_eq k j x y a1 b1
    rw [toPL, toPL]
    rw [D.ltL] at h
    cases e : D.eqv x y with
    | true =>
      rw [e] at h
      rw [PySem.W.dataLt_all_yes ha (by rw [← he, e])]
      exact ltL_eq k j xs ys b a2 b2 c2 (by simpa using h)
    | false =>
      rw [e] at h
      rw [PySem.W.dataLt_all_no ha (by rw [← he, e])]
      exact lt_eq k j x y b a1 b1 c1 (by simpa using h)
end
/-! ### the heap reads so -/
section
variable {X : Cx} {pins : List (Addr × Obj)} {σ : L2.St} {H : Hp} {s : Shared} {μ : List Addr} {st : Sto}
theorem tup_reads {h : Heap} {a : Addr} {its : List Value} (p : PyProof.Rows.IsTup h a its.toArray) {xs : List PyData} {as : List Addr} (r : ReadsAll h its xs as) : Reads h (.ref a) (.tuple xs) as := by
  obtain ⟨o, h1, h2, n, h3⟩ := p
  exact Reads.tuple h1 h2 h3 (by simpa using r)
mutual
theorem rep_reads (I : Inv X pins σ H s) : ∀ (k : Nat) (d : D) (v : V) (u : Value), D.pl k d = true → Rep X.K μ H d v → RelV v u → ∃ as, Reads s.heap u (toP d) as
  | _, .non, v, u, _, r, q => by
    cases (show v = .non from r)
    cases (show u = Value.none from q)
    exact ⟨_, .none⟩
  | _, .bl b, v, u, _, r, q => by
    cases (show v = .bl b from r)
    cases (show u = Value.bool b from q)
    exact ⟨_, .bool b⟩
  | _, .int i, v, u, _, r, q => by
    cases (show v = .int i from r)
    obtain ⟨t, rfl⟩ := q
    exact ⟨_, .int i t⟩
  | _, .str x, v, u, _, r, q => by
    cases (show v = .str x from r)
    obtain ⟨t, rfl⟩ := q
    exact ⟨_, .str x t⟩
  | _, .ref _, _, _, h, _, _ => by simp [D.pl] at h
  | _, .fn _, _, _, h, _, _ => by simp [D.pl] at h
  | _, .rol _, _, _, h, _, _ => by simp [D.pl] at h
  | 0, .tup xs, _, _, h, _, _ => by simp [D.pl] at h
  | k + 1, .tup ds, v, u, h, r, q => by
    obtain ⟨a, vs, ob, rfl, ha, r⟩ := r
    cases (show u = Value.ref a from q)
    obtain ⟨its, rv, p, _⟩ := I.tuple (.inl (.inr ⟨_, ha⟩))
    obtain ⟨as, h2⟩ := repL_reads I k ds vs its (by simpa [D.pl] using h) r rv
    exact ⟨as, tup_reads p h2⟩
theorem repL_reads (I : Inv X pins σ H s) : ∀ (k : Nat) (ds : List D) (vs : List V) (us : List Value), D.plL k ds = true → RepL X.K μ H ds vs → Vals vs us → ∃ as, ReadsAll s.heap us (toPL ds) as
  | _, [], vs, us, _, r, q => by
    cases (show vs = [] from r)
    cases q
    exact ⟨_, .nil⟩
  | k, d :: ds, vs, us, h, r, q => by
    obtain ⟨h1, h2⟩ := b_and (show (D.pl k d && D.plL k ds) = true by simpa [D.plL] using h)
    obtain ⟨v, vr, rfl, r1, r2⟩ := r
    cases q with
    | cons q1 q2 =>
      obtain ⟨as, e1⟩ := rep_reads I k d v _ h1 r1 q1
      obtain ⟨bs, e2⟩ := repL_reads I k ds vr _ h2 r2 q2
      exact ⟨_, .cons e1 e2⟩
end
/-- a list of plain data -/
theorem lst_reads (I : Inv X pins σ H s) {a : Addr} {vs : List V} {ds : List D} {k : Nat} (ha : H a = some (.lst vs)) (h : D.plL k ds = true) (r : RepL X.K μ H ds vs) :
    ∃ as, Reads s.heap (.ref a) (.list (toPL ds)) as ∧ ∃ its : List Value, s.heap.IsList a its.toArray ∧ Vals vs its ∧ ∃ bs, ReadsAll s.heap its (toPL ds) bs := by
  obtain ⟨z, its, n, rv, e⟩ := (show ObjOk X.prog X.w H s.heap a (.lst vs) from I.hok a _ ha)
  obtain ⟨as, e2⟩ := repL_reads I k ds vs its h r rv
  exact ⟨a :: as, Reads.list e rfl rfl (by simpa using e2), its, ⟨_, e, rfl, _, rfl⟩, rv, as, e2⟩
end
end Ev
end

section
set_option Elab.async false
set_option linter.all false
set_option maxRecDepth 100000
set_option maxHeartbeats 2000000
/-! Snd3: the operators. -/
namespace Ev
open PySem PySem.Spec L2
/-- what is wanted behind a step that gives d over st' -/
def Post (K : PySem.W.Frag) (μ : List Addr) (H : Hp) (d : D) (st' : Sto) (Q : VK) : Prop := ∀ μ' v H', Le μ H μ' H' → Rep K μ' H' d v → StR K μ' H' st' → Q v H'
theorem bind_ok {α β : Type} {r : R α} {f : α → Sto → R β} {b : β} {st : Sto} (h : r.bind f = .ok b st) : ∃ a st1, r = .ok a st1 ∧ f a st1 = .ok b st := by
  cases r with
  | no => cases h
  | ok a st1 => exact ⟨a, st1, rfl, h⟩
  | ex x st1 => cases h
section
variable {K : PySem.W.Frag} {μ : List Addr} {H : Hp} {st st' : Sto} {d : D} {Q : VK}
theorem Post.here (S : StR K μ H st) {v : V} (r : Rep K μ H d v) (p : Post K μ H d st Q) : Q v H := p μ v H .refl r S
/-- a new list (a thing of the store) -/
theorem Post.lay (S : StR K μ H st) {o : O} {ho : HO} (ni : ¬ Imm ho) (r : ∀ p, H p = none → ObjR K (μ ++ [p]) (upd H p ho) p o) (p : Post K μ H (.ref st.length) (st ++ [o]) Q) : ∀ q, H q = none → Q (.ref q) (upd H q ho) := fun q hq => by
  refine p (μ ++ [q]) (.ref q) (upd H q ho) (le_lay S hq ho) ?_ (S.lay hq (r q hq))
  refine ⟨q, ?_, rfl⟩
  rw [List.getElem?_append_right (by rw [S.len]; exact Nat.le_refl _), S.len, Nat.sub_self]
  rfl
theorem obj_lst (S : StR K μ H st) {ds : List D} {vs : List V} (r : Paired (Rep K μ H) ds vs) : ∀ p, H p = none → ObjR K (μ ++ [p]) (upd H p (.lst vs)) p (.lst ds) := fun p hp =>
  ⟨vs, upd_same, RepL.iff.mpr (Pr.imp r fun _ _ h => h.mono (le_lay S hp _))⟩
/-- a new tuple -/
theorem Post.tup (S : StR K μ H st) {ds : List D} {vs : List V} {its : List Value} (r : Paired (Rep K μ H) ds vs) (p : Post K μ H (.tup ds) st Q) : ∀ q, H q = none → Q (.ref q) (upd H q (.frz (tupO its) (.tup vs))) := fun q hq =>
  p μ (.ref q) (upd H q (.frz (tupO its) (.tup vs))) (le_new S hq _) ⟨q, vs, its, rfl, upd_same, RepL.iff.mpr (Pr.imp r fun _ _ h => h.mono (le_new S hq _))⟩ (S.new hq _)
/-- a tuple's object is pushed -/
theorem tup_push {X : Cx} {pins : List (Addr × Obj)} {σ : L2.St} {H : Hp} {s : Shared} {vs : List V} {us : List Value} {tk : Nat} (I : Inv X pins σ H s) (r : Vals vs us) (z : vs.length ≤ sizeLine) :
    Inv X pins σ (upd H s.heap.objs.size (.frz (tupO us) (.tup vs))) { s with heap := s.heap.push (tupO us), toks := tk } := by
  have e := Heap.get?_push_size s.heap (o := tupO us) rfl
  exact L2.Inv.laid (t' := tk) I (fun _ _ q => Heap.get?_push_of_some _ q) (Nat.le_refl _) ⟨e, z, us, r, _, e, rfl, 0, rfl⟩
theorem tup_end {X : Cx} {pins : List (Addr × Obj)} {σ : L2.St} {H : Hp} {s : Shared} {μ : List Addr} {st : Sto} {Q : VK} {ds : List D} {vs : List V} {us : List Value} {tk : Nat} (I : Inv X pins σ H s) (S : StR X.K μ H st) (rd : Paired (Rep X.K μ H) ds vs) (r : Vals vs us)
    (z : vs.length ≤ sizeLine) (p : Post X.K μ H (.tup ds) st Q) : EP X pins σ Q (.ref s.heap.objs.size) { s with heap := s.heap.push (tupO us), toks := tk } :=
  ⟨.ref s.heap.objs.size, _, tup_push I r z, rfl, p.tup S rd _ (I.hok.fresh (Nat.le_refl _))⟩
theorem new_ok {o : O} {d : D} (h : new o st = .ok d st') : d = .ref st.length ∧ st' = st ++ [o] := by
  unfold Ev.new at h
  cases h
  exact ⟨rfl, rfl⟩
theorem StR.at_ (S : StR K μ H st) {l : Nat} {a : Addr} {o : O} (h : μ[l]? = some a) (e : sget st l = some o) : ObjR K μ H a o := S.ob l a o h (by rw [← sget_eq]; exact e)
theorem StR.lst (S : StR K μ H st) {l : Nat} {a : Addr} {ds : List D} (h : μ[l]? = some a) (e : sget st l = some (.lst ds)) : ∃ vs, H a = some (.lst vs) ∧ Paired (Rep K μ H) ds vs := by
  have q : ∃ vs, H a = some (.lst vs) ∧ RepL K μ H ds vs := S.at_ h e
  obtain ⟨vs, h1, h2⟩ := q
  exact ⟨vs, h1, RepL.iff.mp h2⟩
theorem Post.int {i : Int} (p : Post K μ H (.int i) st Q) (S : StR K μ H st) : Q (.int i) H := p μ (.int i) H .refl rfl S
theorem Post.str {i : Str} (p : Post K μ H (.str i) st Q) (S : StR K μ H st) : Q (.str i) H := p μ (.str i) H .refl rfl S
theorem Post.bl {i : Bool} (p : Post K μ H (.bl i) st Q) (S : StR K μ H st) : Q (.bl i) H := p μ (.bl i) H .refl rfl S
theorem Post.non (p : Post K μ H .non st Q) (S : StR K μ H st) : Q .non H := p μ .non H .refl rfl S
end
theorem rep_flat {α : Type} (xs : List α) : ∀ k, rep xs k = (List.replicate k xs).flatten
  | 0 => rfl
  | k + 1 => by rw [rep, List.replicate_succ, List.flatten_cons, rep_flat xs k]
def pyB : Bop → Operator
  | .add => .Add
  | .sub => .Sub
  | .mul => .Mult
  | .fdiv => .FloorDiv
  | .mod => .Mod
  | .pow => .Pow
def vBin (K : PySem.W.Frag) (f : D → D → Sto → R D) : R2 := fun x y H Q => ∃ μ dx dy st d st', StR K μ H st ∧ Rep K μ H dx x ∧ Rep K μ H dy y ∧ f dx dy st = .ok d st' ∧ Post K μ H d st' Q
theorem ite_ok {α : Type} {b : Bool} {x : α} {st' : Sto} {r : R α} (h : (if b = true then r else .no) = .ok x st') : b = true ∧ r = .ok x st' := by
  cases b with
  | true => exact ⟨rfl, by simpa using h⟩
  | false => simp at h
section
variable {X : Cx}
theorem op_bin_add : OpR X (binaryOp .Add) (vBin X.K (binop .add)) := by
  intro pins s σ H x y v u Q I rx ry ⟨μ, dx, dy, st, d, st', S, r1, r2, h, p⟩
  cases dx with
  | int i =>
    cases dy with
    | int j =>
      cases (show x = .int i from r1)
      cases (show y = .int j from r2)
      cases (show R.ok (D.int (i + j)) st = .ok d st' from h)
      exact op_add pins s σ H _ _ v u Q I rx ry ⟨i, j, rfl, rfl, p.int S⟩
    | _ => cases h
  | str a =>
    cases dy with
    | str b =>
      cases (show x = .str a from r1)
      cases (show y = .str b from r2)
      obtain ⟨hb, e⟩ := ite_ok (show (if small (a.length + b.length) = true then R.ok (D.str (a ++ b)) st else .no) = .ok d st' from h)
      cases e
      exact op_add_str pins s σ H _ _ v u Q I rx ry ⟨a, b, rfl, rfl, small_iff hb, p.str S⟩
    | _ => cases h
  | tup xs =>
    cases dy with
    | tup ys =>
      obtain ⟨a, vs, o1, rfl, ha, q1⟩ := r1
      obtain ⟨b, ws, o2, rfl, hb, q2⟩ := r2
      obtain ⟨hz, e⟩ := ite_ok (show (if small (xs.length + ys.length) = true then R.ok (D.tup (xs ++ ys)) st else .no) = .ok d st' from h)
      cases e
      have g1 := RepL.iff.mp q1
      have g2 := RepL.iff.mp q2
      have l1 := g1.length
      have l2 := g2.length
      have hz := small_iff hz
      cases rx
      cases ry
      obtain ⟨its, w1, t1, _⟩ := I.tuple (.inl (.inr ⟨_, ha⟩))
      obtain ⟨its2, w2, t2, _⟩ := I.tuple (.inl (.inr ⟨_, hb⟩))
      have m1 := w1.length
      have m2 := w2.length
      by_cases hv : its = []
      · subst hv
        cases w1
        cases g1
        exact cat_tup0 t1 t2 ⟨.ref b, H, I, rfl, p μ (.ref b) H .refl ⟨b, ws, o2, rfl, hb, q2⟩ S⟩
      · refine HT.cat_tup t1 t2 hv (fun e => ?_) (fun e => ?_) (by omega)
        · subst e
          cases w2
          cases g2
          exact ⟨.ref a, H, I, rfl, p μ (.ref a) H .refl ⟨a, vs, o1, rfl, ha, by rw [List.append_nil]; exact q1⟩ S⟩
        · exact tup_end (tk := s.toks) I S (Pr.app g1 g2) (w1.append w2) (by rw [List.length_append]; omega) p
    | _ => cases h
  | ref l =>
    cases dy with
    | ref m =>
      obtain ⟨a, ha, rfl⟩ := r1
      obtain ⟨b, hb, rfl⟩ := r2
      simp only [binop] at h
      cases e1 : sget st l with
      | none => rw [e1] at h; cases h
      | some o =>
        rw [e1] at h
        cases o with
        | lst xs =>
          cases e2 : sget st m with
          | none => rw [e2] at h; cases h
          | some o =>
            rw [e2] at h
            cases o with
            | lst ys =>
              obtain ⟨vs, h1, q1⟩ := S.lst ha e1
              obtain ⟨ws, h2, q2⟩ := S.lst hb e2
              obtain ⟨hz, e⟩ := ite_ok h
              obtain ⟨rfl, rfl⟩ := new_ok e
              have l1 := q1.length
              have l2 := q2.length
              exact op_cat pins s σ H _ _ v u Q I rx ry ⟨a, b, vs, ws, rfl, rfl, h1, h2, by rw [← l1, ← l2]; exact small_iff hz, p.lay S (fun z => z) (obj_lst S (Pr.app q1 q2))⟩
            | _ => cases h
        | _ => cases h
    | _ => cases h
  | _ => cases h
theorem op_bin_sub : OpR X (binaryOp .Sub) (vBin X.K (binop .sub)) := by
  intro pins s σ H x y v u Q I rx ry ⟨μ, dx, dy, st, d, st', S, r1, r2, h, p⟩
  cases dx with
  | int i =>
    cases dy with
    | int j =>
      cases (show x = .int i from r1)
      cases (show y = .int j from r2)
      cases (show R.ok (D.int (i - j)) st = .ok d st' from h)
      exact op_sub pins s σ H _ _ v u Q I rx ry ⟨i, j, rfl, rfl, p.int S⟩
    | _ => cases h
  | _ => cases h
theorem op_bin_fdiv : OpR X (binaryOp .FloorDiv) (vBin X.K (binop .fdiv)) := by
  intro pins s σ H x y v u Q I rx ry ⟨μ, dx, dy, st, d, st', S, r1, r2, h, p⟩
  cases dx with
  | int i =>
    cases dy with
    | int j =>
      cases (show x = .int i from r1)
      cases (show y = .int j from r2)
      obtain ⟨hb, e⟩ := ite_ok (show (if (j != 0 && decide (j.natAbs < 1073741824)) = true then R.ok (D.int (i.fdiv j)) st else .no) = .ok d st' from h)
      cases e
      obtain ⟨b1, b2⟩ := b_and hb
      exact op_fdivN pins s σ H _ _ v u Q I rx ry ⟨i, j, rfl, rfl, ⟨by simpa using b1, by simpa using b2⟩, p.int S⟩
    | _ => cases h
  | _ => cases h
theorem op_bin_mod : OpR X (binaryOp .Mod) (vBin X.K (binop .mod)) := by
  intro pins s σ H x y v u Q I rx ry ⟨μ, dx, dy, st, d, st', S, r1, r2, h, p⟩
  cases dx with
  | int i =>
    cases dy with
    | int j =>
      cases (show x = .int i from r1)
      cases (show y = .int j from r2)
      obtain ⟨hb, e⟩ := ite_ok (show (if (j != 0) = true then R.ok (D.int (i.fmod j)) st else .no) = .ok d st' from h)
      cases e
      exact op_modN pins s σ H _ _ v u Q I rx ry ⟨i, j, rfl, rfl, by simpa using hb, p.int S⟩
    | _ => cases h
  | _ => cases h
theorem op_bin_pow : OpR X (binaryOp .Pow) (vBin X.K (binop .pow)) := by
  intro pins s σ H x y v u Q I rx ry ⟨μ, dx, dy, st, d, st', S, r1, r2, h, p⟩
  cases dx with
  | int i =>
    cases dy with
    | int j =>
      cases (show x = .int i from r1)
      cases (show y = .int j from r2)
      obtain ⟨hb, e⟩ := ite_ok (show (if (decide (0 ≤ j) && decide (j ≤ 1000000) && decide (i.natAbs < 18446744073709551616)) = true then R.ok (D.int (i ^ j.toNat)) st else .no) = .ok d st' from h)
      cases e
      obtain ⟨b12, b3⟩ := b_and hb
      obtain ⟨b1, b2⟩ := b_and b12
      exact op_pow pins s σ H _ _ v u Q I rx ry ⟨i, j, rfl, rfl, ⟨by simpa using b1, by simpa using b2, by simpa using b3⟩, p.int S⟩
    | _ => cases h
  | _ => cases h
theorem op_bin_mul : OpR X (binaryOp .Mult) (vBin X.K (binop .mul)) := by
  intro pins s σ H x y v u Q I rx ry ⟨μ, dx, dy, st, d, st', S, r1, r2, h, p⟩
  cases dx with
  | int i =>
    cases dy with
    | int j =>
      cases (show x = .int i from r1)
      cases (show y = .int j from r2)
      obtain ⟨hb, e⟩ := ite_ok (show (if mulOk i j = true then R.ok (D.int (i * j)) st else .no) = .ok d st' from h)
      cases e
      refine op_mul pins s σ H _ _ v u Q I rx ry ⟨i, j, rfl, rfl, ?_, p.int S⟩
      simp only [mulOk, Bool.or_eq_true, Bool.and_eq_true, decide_eq_true_eq] at hb
      exact hb.imp (fun h => ⟨by omega, by omega⟩) fun h => ⟨by omega, by omega⟩
    | _ => cases h
  | ref l =>
    cases dy with
    | int j =>
      obtain ⟨a, ha, rfl⟩ := r1
      cases (show y = .int j from r2)
      simp only [binop] at h
      cases e1 : sget st l with
      | none => rw [e1] at h; cases h
      | some o =>
        rw [e1] at h
        cases o with
        | lst xs =>
          obtain ⟨vs, h1, q1⟩ := S.lst ha e1
          obtain ⟨hb, e⟩ := ite_ok h
          obtain ⟨rfl, rfl⟩ := new_ok e
          have l1 := q1.length
          simp only [Bool.and_eq_true, decide_eq_true_eq] at hb
          obtain ⟨⟨b1, b2⟩, b3⟩ := hb
          refine op_rep pins s σ H _ _ v u Q I rx ry ⟨a, j, vs, rfl, rfl, h1, by omega, by omega, by rw [← l1]; exact small_iff b1, ?_⟩
          rw [← rep_flat]
          exact p.lay S (fun z => z) (obj_lst S (Pr.rep q1 j.toNat))
        | _ => cases h
    | _ => cases h
  | _ => cases h
theorem op_bin (o : Bop) : OpR X (binaryOp (pyB o)) (vBin X.K (binop o)) := by
  cases o with
  | add => exact op_bin_add
  | sub => exact op_bin_sub
  | mul => exact op_bin_mul
  | fdiv => exact op_bin_fdiv
  | mod => exact op_bin_mod
  | pow => exact op_bin_pow
end
end Ev
end

section
set_option Elab.async false
set_option linter.all false
set_option maxRecDepth 100000
set_option maxHeartbeats 2000000
/-! Snd4: comparisons. -/
namespace Ev
open PySem PySem.Spec L2
def pyC : Cop → CmpOp
  | .eq => .Eq
  | .ne => .NotEq
  | .lt => .Lt
  | .le => .LtE
  | .gt => .Gt
  | .ge => .GtE
  | .isin => .In
  | .notin => .NotIn
  | .is_ => .Is
  | .isnot => .IsNot
def vCmp (K : PySem.W.Frag) (f : D → D → Sto → Option Bool) : R2 := fun x y H Q => ∃ μ dx dy st b, StR K μ H st ∧ Rep K μ H dx x ∧ Rep K μ H dy y ∧ f dx dy st = some b ∧ Post K μ H (.bl b) st Q
theorem ifO {α : Type} {b : Bool} {x : α} {r : Option α} (h : (if b = true then r else none) = some x) : b = true ∧ r = some x := by
  cases b with
  | true => exact ⟨rfl, by simpa using h⟩
  | false => simp at h
theorem notO {b : Bool} {r : Option Bool} (h : (match r with | some b => some (!b) | none => none) = some b) : ∃ c, r = some c ∧ b = !c := by
  cases r with
  | none => cases h
  | some c => exact ⟨c, rfl, (Option.some.inj h).symm⟩
section
variable {X : Cx} {pins : List (Addr × Obj)} {σ : L2.St} {H : Hp} {s : Shared} {μ : List Addr} {st : Sto}
/-- two things that == tells by their data -/
theorem eq_reads (I : Inv X pins σ H s) (S : StR X.K μ H st) {dx dy : D} {x y : V} {v u : Value} {b : Bool} (r1 : Rep X.K μ H dx x) (r2 : Rep X.K μ H dy y) (q1 : RelV x v) (q2 : RelV y u) (h : eqR st dx dy = some b) :
    ∃ (da db : PyData) (as bs : List Addr), Reads s.heap v da as ∧ Reads s.heap u db bs ∧ da.plain = true ∧ db.plain = true ∧ min da.depth db.depth ≤ 100 ∧ PyData.eqv da db = b := by
  have main : ∀ {dx dy : D} {x y : V} {v u : Value}, Rep X.K μ H dx x → Rep X.K μ H dy y → RelV x v → RelV y u → (if (D.plain dx && D.plain dy) = true then some (D.eqv dx dy) else none) = some b →
      ∃ (da db : PyData) (as bs : List Addr), Reads s.heap v da as ∧ Reads s.heap u db bs ∧ da.plain = true ∧ db.plain = true ∧ min da.depth db.depth ≤ 100 ∧ PyData.eqv da db = b := by
    intro dx dy x y v u r1 r2 q1 q2 h
    obtain ⟨hp, e⟩ := ifO h
    obtain ⟨p1, p2⟩ := b_and hp
    obtain ⟨as, e1⟩ := rep_reads I 60 dx x v p1 r1 q1
    obtain ⟨bs, e2⟩ := rep_reads I 60 dy y u p2 r2 q2
    obtain ⟨a1, a2⟩ := pl_plain 60 dx p1
    obtain ⟨b1, b2⟩ := pl_plain 60 dy p2
    refine ⟨_, _, as, bs, e1, e2, a1, b1, by omega, ?_⟩
    rw [← eqv_eq 60 60 dx dy p1 p2]
    exact Option.some.inj e
  cases dx with
  | ref l =>
    cases dy with
    | ref m =>
      obtain ⟨a, ha, rfl⟩ := r1
      obtain ⟨b', hb, rfl⟩ := r2
      simp only [eqR] at h
      cases e1 : sget st l with
      | none => rw [e1] at h; cases h
      | some o =>
        rw [e1] at h
        cases o with
        | lst xs =>
          cases e2 : sget st m with
          | none => rw [e2] at h; cases h
          | some o =>
            rw [e2] at h
            cases o with
            | lst ys =>
              obtain ⟨vs, h1, q3⟩ := S.lst ha e1
              obtain ⟨ws, h2, q4⟩ := S.lst hb e2
              obtain ⟨hp, e⟩ := ifO h
              obtain ⟨p1, p2⟩ := b_and hp
              cases (show v = Value.ref a from q1)
              cases (show u = Value.ref b' from q2)
              obtain ⟨as, e3, _⟩ := lst_reads I h1 p1 (RepL.iff.mpr q3)
              obtain ⟨bs, e4, _⟩ := lst_reads I h2 p2 (RepL.iff.mpr q4)
              obtain ⟨a1, a2⟩ := plL_plain 60 xs p1
              obtain ⟨b1, b2⟩ := plL_plain 60 ys p2
              refine ⟨_, _, as, bs, e3, e4, by rw [PyData.plain]; exact a1, by rw [PyData.plain]; exact b1, by rw [PyData.depth, PyData.depth]; omega, ?_⟩
              rw [PyData.eqv, ← eqvL_eq 60 60 xs ys p1 p2]
              exact Option.some.inj e
            | _ => cases h
        | _ => cases h
    | _ => cases h
  | _ => exact main r1 r2 q1 q2 h
theorem cmp_reads (I : Inv X pins σ H s) {dx dy : D} {x y : V} {v u : Value} (r1 : Rep X.K μ H dx x) (r2 : Rep X.K μ H dy y) (q1 : RelV x v) (q2 : RelV y u) (h : cmpOk dx dy = true) :
    ∃ (as bs : List Addr), Reads s.heap v (toP dx) as ∧ Reads s.heap u (toP dy) bs ∧ PySem.W.alike (toP dx) (toP dy) = true ∧ toP dx ≠ .none ∧ min (toP dx).depth (toP dy).depth ≤ 100 ∧
      (∀ b, D.lt dx dy = some b → PySem.W.dataLt (toP dx) (toP dy) = b) ∧ ∀ b, D.lt dy dx = some b → PySem.W.dataLt (toP dy) (toP dx) = b := by
  unfold cmpOk at h
  obtain ⟨h, n⟩ := b_and h
  obtain ⟨h, a2⟩ := b_and h
  obtain ⟨h, a1⟩ := b_and h
  obtain ⟨p1, p2⟩ := b_and h
  obtain ⟨as, e1⟩ := rep_reads I 60 dx x v p1 r1 q1
  obtain ⟨bs, e2⟩ := rep_reads I 60 dy y u p2 r2 q2
  obtain ⟨c1, c2⟩ := pl_plain 60 dx p1
  obtain ⟨d1, d2⟩ := pl_plain 60 dy p2
  refine ⟨as, bs, e1, e2, alike_eq _ _ a1, ?_, by omega, fun b hb => lt_eq 60 60 dx dy b p1 p2 a1 hb, fun b hb => lt_eq 60 60 dy dx b p2 p1 a2 hb⟩
  intro z
  cases dx <;> first | (simp [D.isNon] at n; done) | (simp [D.plain, D.pl] at p1; done) | (simp [toP] at z; done)
end
section
variable {X : Cx}
theorem op_cmp_eq (hu : X.A.units + 200 < cLine) : OpR X (compareOp .Eq) (vCmp X.K (cmpop .eq)) := by
  intro pins s σ H x y v u Q I rx ry ⟨μ, dx, dy, st, b, S, r1, r2, h, q⟩
  obtain ⟨da, db, as, bs, e1, e2, p1, p2, hd, e⟩ := eq_reads I S r1 r2 rx ry (show eqR st dx dy = some b from h)
  exact PySem.SeqAt.eq_plain e1 e2 p1 p2 (by omega) ⟨.bl b, H, I, by rw [e]; rfl, q.bl S⟩
theorem op_cmp_ne (hu : X.A.units + 200 < cLine) : OpR X (compareOp .NotEq) (vCmp X.K (cmpop .ne)) := by
  intro pins s σ H x y v u Q I rx ry ⟨μ, dx, dy, st, b, S, r1, r2, h, q⟩
  obtain ⟨c, hc, rfl⟩ := notO (show (match eqR st dx dy with | some b => some (!b) | none => none) = some b from h)
  obtain ⟨da, db, as, bs, e1, e2, p1, p2, hd, e⟩ := eq_reads I S r1 r2 rx ry hc
  exact PySem.SeqAt.ne_plain e1 e2 p1 p2 (by omega) ⟨.bl (!c), H, I, by rw [e]; rfl, q.bl S⟩
theorem op_cmp_lt (hu : X.A.units + 200 < cLine) : OpR X (compareOp .Lt) (vCmp X.K (cmpop .lt)) := by
  intro pins s σ H x y v u Q I rx ry ⟨μ, dx, dy, st, b, S, r1, r2, h, q⟩
  obtain ⟨hk, e⟩ := ifO (show (if cmpOk dx dy = true then D.lt dx dy else none) = some b from h)
  obtain ⟨as, bs, e1, e2, al, nn, hd, l1, l2⟩ := cmp_reads I r1 r2 rx ry hk
  exact PySem.W.lt_data e1 e2 al nn (by omega) ⟨.bl b, H, I, by rw [l1 b e]; rfl, q.bl S⟩
theorem op_cmp_gt (hu : X.A.units + 200 < cLine) : OpR X (compareOp .Gt) (vCmp X.K (cmpop .gt)) := by
  intro pins s σ H x y v u Q I rx ry ⟨μ, dx, dy, st, b, S, r1, r2, h, q⟩
  obtain ⟨hk, e⟩ := ifO (show (if cmpOk dx dy = true then D.lt dy dx else none) = some b from h)
  obtain ⟨as, bs, e1, e2, al, nn, hd, l1, l2⟩ := cmp_reads I r1 r2 rx ry hk
  exact PySem.W.gt_data e1 e2 al nn (by omega) ⟨.bl b, H, I, by rw [l2 b e]; rfl, q.bl S⟩
theorem op_cmp_le (hu : X.A.units + 200 < cLine) : OpR X (compareOp .LtE) (vCmp X.K (cmpop .le)) := by
  intro pins s σ H x y v u Q I rx ry ⟨μ, dx, dy, st, b, S, r1, r2, h, q⟩
  obtain ⟨c, hc, rfl⟩ := notO (show (match gtR dx dy with | some b => some (!b) | none => none) = some b from h)
  obtain ⟨hk, e⟩ := ifO (show (if cmpOk dx dy = true then D.lt dy dx else none) = some c from hc)
  obtain ⟨as, bs, e1, e2, al, nn, hd, l1, l2⟩ := cmp_reads I r1 r2 rx ry hk
  exact PySem.W.le_data e1 e2 al nn (by omega) ⟨.bl (!c), H, I, by rw [l2 c e]; rfl, q.bl S⟩
theorem op_cmp_ge (hu : X.A.units + 200 < cLine) : OpR X (compareOp .GtE) (vCmp X.K (cmpop .ge)) := by
  intro pins s σ H x y v u Q I rx ry ⟨μ, dx, dy, st, b, S, r1, r2, h, q⟩
  obtain ⟨c, hc, rfl⟩ := notO (show (match ltR dx dy with | some b => some (!b) | none => none) = some b from h)
  obtain ⟨hk, e⟩ := ifO (show (if cmpOk dx dy = true then D.lt dx dy else none) = some c from hc)
  obtain ⟨as, bs, e1, e2, al, nn, hd, l1, l2⟩ := cmp_reads I r1 r2 rx ry hk
  exact PySem.W.ge_data e1 e2 al nn (by omega) ⟨.bl (!c), H, I, by rw [l1 c e]; rfl, q.bl S⟩
theorem is_rel {dx : D} {x : V} {v : Value} {μ : List Addr} {H : Hp} (r : Rep X.K μ H dx x) (q : RelV x v) {y : D} {b : Bool} (h : isR dx y = some b) :
    ∃ u, (∀ z, Rep X.K μ H y z → ∀ w, RelV z w → w = u) ∧ plainIs v u = true ∧ (v == u) = b := by
  cases y with
  | non =>
    refine ⟨.none, fun z hz w hw => by cases (show z = .non from hz); exact hw, ?_⟩
    have e := Option.some.inj (show some (match (generalizing := false) dx with | .non => true | _ => false) = some b from h)
    cases dx with
    | non => cases (show x = .non from r); cases (show v = Value.none from q); exact ⟨rfl, e⟩
    | bl c => cases (show x = .bl c from r); cases (show v = Value.bool c from q); exact ⟨rfl, e⟩
    | int c => cases (show x = .int c from r); obtain ⟨t, rfl⟩ := q; exact ⟨rfl, e⟩
    | str c => cases (show x = .str c from r); obtain ⟨t, rfl⟩ := q; exact ⟨rfl, e⟩
    | tup c => obtain ⟨a, vs, _, rfl, _⟩ := r; cases (show v = Value.ref a from q); exact ⟨rfl, e⟩
    | ref c => obtain ⟨a, _, rfl⟩ := r; cases (show v = Value.ref a from q); exact ⟨rfl, e⟩
    | fn c => exact r.elim
    | rol c => obtain ⟨a, rfl, _⟩ := r; cases (show v = Value.ref a from q); exact ⟨rfl, e⟩
  | bl c' =>
    refine ⟨.bool c', fun z hz w hw => by cases (show z = .bl c' from hz); exact hw, ?_⟩
    have e := Option.some.inj (show some (match (generalizing := false) dx with | .bl c => c == c' | _ => false) = some b from h)
    cases dx with
    | non => cases (show x = .non from r); cases (show v = Value.none from q); exact ⟨rfl, e⟩
    | bl c =>
      cases (show x = .bl c from r)
      cases (show v = Value.bool c from q)
      refine ⟨rfl, ?_⟩
      rw [← e]
      cases c <;> cases c' <;> rfl
    | int c => cases (show x = .int c from r); obtain ⟨t, rfl⟩ := q; exact ⟨rfl, e⟩
    | str c => cases (show x = .str c from r); obtain ⟨t, rfl⟩ := q; exact ⟨rfl, e⟩
    | tup c => obtain ⟨a, vs, _, rfl, _⟩ := r; cases (show v = Value.ref a from q); exact ⟨rfl, e⟩
    | ref c => obtain ⟨a, _, rfl⟩ := r; cases (show v = Value.ref a from q); exact ⟨rfl, e⟩
    | fn c => exact r.elim
    | rol c => obtain ⟨a, rfl, _⟩ := r; cases (show v = Value.ref a from q); exact ⟨rfl, e⟩
  | _ => cases h
theorem op_cmp_is : OpR X (compareOp .Is) (vCmp X.K (cmpop .is_)) := by
  intro pins s σ H x y v u Q I rx ry ⟨μ, dx, dy, st, b, S, r1, r2, h, q⟩
  obtain ⟨w, hw, hp, e⟩ := is_rel r1 rx (show isR dx dy = some b from h)
  cases hw y r2 u ry
  exact wpAny_is_plain hp ⟨.bl b, H, I, by rw [e]; rfl, q.bl S⟩
theorem op_cmp_isnot : OpR X (compareOp .IsNot) (vCmp X.K (cmpop .isnot)) := by
  intro pins s σ H x y v u Q I rx ry ⟨μ, dx, dy, st, b, S, r1, r2, h, q⟩
  obtain ⟨c, hc, rfl⟩ := notO (show (match isR dx dy with | some b => some (!b) | none => none) = some b from h)
  obtain ⟨w, hw, hp, e⟩ := is_rel r1 rx hc
  cases hw y r2 u ry
  exact wpAny_isNot_plain hp ⟨.bl (!c), H, I, by rw [e]; rfl, q.bl S⟩
end
/-! ### keys -/
theorem kD_inj {k j : Key} (h : kD k = kD j) : k = j := by
  cases k <;> cases j <;> simp [kD] at h <;> simp [h]
theorem eqv_kD (k j : Key) : D.eqv (kD k) (kD j) = decide (k = j) := by
  cases k with
  | inl a =>
    cases j with
    | inl b => rw [L2.key_ll]; rfl
    | inr b => simp [kD, D.eqv]
  | inr a =>
    cases j with
    | inl b => simp [kD, D.eqv]
    | inr b => simp [kD, D.eqv, sEq_eq, Bool.beq_eq_decide_eq]
theorem kk_false {d : D} (h : D.kk d = some false) : ∃ k, d = kD k := by
  cases d with
  | int i => exact ⟨.inl i, rfl⟩
  | str s => exact ⟨.inr s, rfl⟩
  | _ => cases h
theorem kk_kD (k : Key) : D.kk (kD k) = some false := by cases k <;> rfl
section
variable {K : PySem.W.Frag} {μ : List Addr} {H : Hp} {st : Sto}
theorem rep_kD {k : Key} {v : V} (h : Rep K μ H (kD k) v) : v = kV k := by cases k <;> exact h
theorem rep_kD' {k : Key} : Rep K μ H (kD k) (kV k) := by cases k <;> rfl
/-- what a key finds -/
theorem kv_get {k : Key} : ∀ {kvs : List (D × D)} {l : List (Key × V)}, KVR K μ H kvs l → (∀ d, kvGet (kD k) kvs = some d → ∃ v, valV l k = some v ∧ Rep K μ H d v) ∧ (kvGet (kD k) kvs = none → valV l k = none)
  | _, _, .nil => ⟨fun d h => (by cases h), fun _ => rfl⟩
  | p :: kvs, q :: l, .cons r t => by
    obtain ⟨r1, r2⟩ := r
    have ih := kv_get (k := k) t
    have e : kvGet (kD k) (p :: kvs) = if D.eqv p.1 (kD k) = true then some p.2 else kvGet (kD k) kvs := rfl
    rw [r1, eqv_kD] at e
    by_cases h : q.1 = k
    · rw [e, decide_eq_true h, if_pos rfl, L2.valV_pos h]
      exact ⟨fun d hd => ⟨q.2, rfl, by rw [← Option.some.inj hd]; exact r2⟩, fun h => by cases h⟩
    · rw [e, decide_eq_false h, if_neg (by decide), L2.valV_neg h]
      exact ih
theorem kvAll_cons {b : Bool} {p : D × D} {r : List (D × D)} (h : kvAll b (p :: r) = true) : D.kk p.1 = some b ∧ kvAll b r = true := by
  obtain ⟨h1, h2⟩ := b_and (show ((match D.kk p.1 with | some c => c == b | none => false) && kvAll b r) = true from h)
  refine ⟨?_, h2⟩
  cases e : D.kk p.1 with
  | none => rw [e] at h1; cases h1
  | some c =>
    rw [e] at h1
    rw [show c = b by simpa using h1]
/-- a dict that is read -/
def DctR (K : PySem.W.Frag) (μ : List Addr) (H : Hp) (a : Addr) (kvs : List (D × D)) : Prop := ∃ l, Rd H a (.dK l) ∧ KVR K μ H kvs l
theorem StR.dct (S : StR K μ H st) {l : Nat} {a : Addr} {kvs : List (D × D)} (h : μ[l]? = some a) (e : sgetR st l = some (.dct kvs)) : DctR K μ H a kvs := by
  unfold sgetR at e
  split at e
  · rename_i kvs' e1
    have q : ∃ ob l, H a = some (.frz ob (.dK l)) ∧ KVR K μ H kvs' l := S.at_ h e1
    obtain ⟨ob, l, h1, h2⟩ := q
    have e3 : kvs' = kvs := O.dct.inj (Option.some.inj e)
    exact ⟨l, .inr ⟨ob, h1⟩, e3 ▸ h2⟩
  · have q : ∃ l, H a = some (.dK l) ∧ KVR K μ H kvs l := S.at_ h e
    obtain ⟨l, h1, h2⟩ := q
    exact ⟨l, .inl h1, h2⟩
theorem sgetR_lst {l : Nat} {xs : List D} (e : sgetR st l = some (.lst xs)) : sget st l = some (.lst xs) := by
  unfold sgetR at e
  split at e
  · cases e
  · exact e
/-- asked for a key: what is there, by the hand layer's word -/
theorem dct_get {a : Addr} {kvs : List (D × D)} {k : D} {y : V} (R : DctR K μ H a kvs) (hk : kvOk k kvs = true) (r : Rep K μ H k y) :
    ∃ o, DGet H a y o ∧ (∀ d, kvGet k kvs = some d → ∃ v, o = some v ∧ Rep K μ H d v) ∧ (kvGet k kvs = none → o = none) := by
  unfold kvOk at hk
  cases e : D.kk k with
  | none => rw [e] at hk; cases hk
  | some b =>
    cases b with
    | false =>
      obtain ⟨k, rfl⟩ := kk_false e
      obtain ⟨l, h1, h2⟩ := R
      obtain ⟨g1, g2⟩ := kv_get (k := k) h2
      exact ⟨valV l k, .inl ⟨l, k, h1, rep_kD r, rfl⟩, fun d hd => by obtain ⟨v, e1, e2⟩ := g1 d hd; exact ⟨v, e1, e2⟩, g2⟩
    | true => cases k <;> cases e
end
section
variable {X : Cx} {pins : List (Addr × Obj)} {σ : L2.St} {H : Hp} {s : Shared} {μ : List Addr} {st : Sto}
theorem memN_eq (c : Nat) : ∀ l : List Nat, memN c l = decide (c ∈ l)
  | [] => by simp [memN]
  | y :: ys => by
    rw [memN, memN_eq c ys, Bool.eq_iff_iff]
    simp
theorem in_core (neg : Bool) (hu : X.A.units + 200 < cLine) {x y : V} {v u : Value} {Q : VK} (I : Inv X pins σ H s) (rx : RelV x v) (ry : RelV y u) {dx dy : D} {b : Bool} (S : StR X.K μ H st) (r1 : Rep X.K μ H dx x) (r2 : Rep X.K μ H dy y)
    (h : inR st dx dy = some b) (q : Post X.K μ H (.bl (if neg then !b else b)) st Q) : wpAny (model X.prog X.w) X.A (compareOp (if neg then .NotIn else .In) v u) (EP X pins σ Q) X.xe s := by
  cases dy with
  | tup ys =>
    obtain ⟨hp, e⟩ := ifO (show (if (D.plain dx && D.plainL ys) = true then some (anyEq dx ys) else none) = some b from h)
    obtain ⟨p1, p2⟩ := b_and hp
    obtain ⟨a, vs, ob, rfl, ha, hv⟩ := r2
    cases (show u = Value.ref a from ry)
    obtain ⟨as, e1⟩ := rep_reads I 60 dx x v p1 r1 rx
    obtain ⟨its, rv, p, _⟩ := I.tuple (.inl (.inr ⟨_, ha⟩))
    obtain ⟨bs, e2⟩ := repL_reads I 60 ys vs its p2 hv rv
    obtain ⟨a1, a2⟩ := pl_plain 60 dx p1
    obtain ⟨b1, b2⟩ := plL_plain 60 ys p2
    have e3 := tup_reads p e2
    have eb := anyEq_eq p1 p2
    rw [Option.some.inj e] at eb
    cases neg with
    | true => exact PySem.SeqAt.notIn_tuple_data e3 e1 b1 a1 (by omega) ⟨.bl (!b), H, I, by rw [eb]; rfl, q.bl S⟩
    | false => exact PySem.SeqAt.in_tuple_data e3 e1 b1 a1 (by omega) ⟨.bl b, H, I, by rw [eb]; rfl, q.bl S⟩
  | str z =>
    cases dx with
    | str w =>
      cases (show y = .str z from r2)
      cases (show x = .str w from r1)
      have h' : (match w.cps.toList with | [c] => some (memN c z.cps.toList) | _ => none) = some b := h
      obtain ⟨c, hc⟩ : ∃ c, w.cps.toList = [c] := by
        cases e : w.cps.toList with
        | nil => rw [e] at h'; cases h'
        | cons c r =>
          cases r with
          | nil => exact ⟨c, rfl⟩
          | cons _ _ => rw [e] at h'; cases h'
      rw [hc] at h'
      have hw : w = ⟨#[c]⟩ := PySem.W.str_of_cps (by rw [hc])
      subst hw
      have eb : decide (c ∈ z.cps.toList) = b := by rw [← memN_eq]; exact Option.some.inj h'
      cases neg with
      | true => exact op_notIn_sign pins s σ H _ _ v u Q I rx ry ⟨c, z, rfl, rfl, by rw [eb]; exact q.bl S⟩
      | false => exact op_in_sign pins s σ H _ _ v u Q I rx ry ⟨c, z, rfl, rfl, by rw [eb]; exact q.bl S⟩
    | _ => cases h
  | ref l =>
    obtain ⟨a, ha, rfl⟩ := r2
    simp only [inR] at h
    cases e1 : sgetR st l with
    | none => rw [e1] at h; cases h
    | some o =>
      rw [e1] at h
      cases o with
      | lst ys =>
        obtain ⟨hp, e⟩ := ifO (show (if (D.plain dx && D.plainL ys) = true then some (anyEq dx ys) else none) = some b from h)
        obtain ⟨p1, p2⟩ := b_and hp
        obtain ⟨vs, h1, hv⟩ := S.lst ha (sgetR_lst e1)
        cases (show u = Value.ref a from ry)
        obtain ⟨as, e4⟩ := rep_reads I 60 dx x v p1 r1 rx
        obtain ⟨bs, e3, _⟩ := lst_reads I h1 p2 (RepL.iff.mpr hv)
        obtain ⟨a1, a2⟩ := pl_plain 60 dx p1
        obtain ⟨b1, b2⟩ := plL_plain 60 ys p2
        have eb := anyEq_eq p1 p2
        rw [Option.some.inj e] at eb
        cases neg with
        | true => exact PySem.SeqAt.notIn_list_data e3 e4 b1 a1 (by omega) ⟨.bl (!b), H, I, by rw [eb]; rfl, q.bl S⟩
        | false => exact PySem.SeqAt.in_list_data e3 e4 b1 a1 (by omega) ⟨.bl b, H, I, by rw [eb]; rfl, q.bl S⟩
      | dct kvs =>
        obtain ⟨hp, e⟩ := ifO (show (if kvOk dx kvs = true then some (kvGet dx kvs).isSome else none) = some b from h)
        cases (show u = Value.ref a from ry)
        obtain ⟨o, g, q1, q2⟩ := dct_get (S.dct ha e1) hp r1
        have eo : o.isSome = b := by
          rw [← Option.some.inj e]
          cases ek : kvGet dx kvs with
          | none => rw [q2 ek]; rfl
          | some d =>
            obtain ⟨w, ew, _⟩ := q1 d ek
            rw [ew]
            rfl
        cases neg with
        | true => exact d_notIn (by omega) I g rx fun s' I2 => ⟨.bl (!b), H, I2, by rw [eo]; rfl, q.bl S⟩
        | false => exact d_in (by omega) I g rx fun s' I2 => ⟨.bl b, H, I2, by rw [eo]; rfl, q.bl S⟩
      | set ys => cases h
      | lck ys => cases h
      | ins _ _ => cases h
  | _ => cases h
theorem op_cmp_in (hu : X.A.units + 200 < cLine) : OpR X (compareOp .In) (vCmp X.K (cmpop .isin)) := by
  intro pins s σ H x y v u Q I rx ry ⟨μ, dx, dy, st, b, S, r1, r2, h, q⟩
  exact in_core false hu I rx ry S r1 r2 (show inR st dx dy = some b from h) q
theorem op_cmp_notin (hu : X.A.units + 200 < cLine) : OpR X (compareOp .NotIn) (vCmp X.K (cmpop .notin)) := by
  intro pins s σ H x y v u Q I rx ry ⟨μ, dx, dy, st, b, S, r1, r2, h, q⟩
  obtain ⟨c, hc, rfl⟩ := notO (show (match inR st dx dy with | some b => some (!b) | none => none) = some b from h)
  exact in_core true hu I rx ry S r1 r2 hc q
theorem op_cmp (hu : X.A.units + 200 < cLine) (o : Cop) : OpR X (compareOp (pyC o)) (vCmp X.K (cmpop o)) := by
  cases o with
  | eq => exact op_cmp_eq hu
  | ne => exact op_cmp_ne hu
  | lt => exact op_cmp_lt hu
  | le => exact op_cmp_le hu
  | gt => exact op_cmp_gt hu
  | ge => exact op_cmp_ge hu
  | isin => exact op_cmp_in hu
  | notin => exact op_cmp_notin hu
  | is_ => exact op_cmp_is
  | isnot => exact op_cmp_isnot
end
end Ev
end

section
set_option Elab.async false
set_option linter.all false
set_option maxRecDepth 100000
set_option maxHeartbeats 2000000
/-! Snd5: items, slices, stores, truth. -/
namespace Ev
open PySem PySem.Spec L2
theorem place_ix {n : Nat} {i : Int} {k : Nat} (h : place n i = some k) : ixN n i = some k ∧ k < n := by
  unfold place at h
  unfold ixN
  cases i with
  | ofNat j =>
    by_cases hj : j < n
    · have hb : Nat.blt j n = true := Nat.blt_eq.mpr hj
      simp only [hb, if_true] at h
      cases h
      have h1 : (0 : Int) ≤ Int.ofNat k := Int.natCast_nonneg k
      have h2 : Int.ofNat k < (n : Int) := Int.ofNat_lt.mpr hj
      rw [if_pos h1, if_pos h2]
      exact ⟨rfl, hj⟩
    · have hb : Nat.blt j n = false := by
        cases e : Nat.blt j n with
        | false => rfl
        | true => exact absurd (Nat.blt_eq.mp e) hj
      simp only [hb] at h
      cases h
  | negSucc j =>
    by_cases hj : j < n
    · have hb : Nat.blt j n = true := Nat.blt_eq.mpr hj
      simp only [hb, if_true] at h
      cases h
      have h1 : ¬ (0 : Int) ≤ Int.negSucc j := by omega
      have h2 : -(n : Int) ≤ Int.negSucc j := by omega
      rw [if_neg h1, if_pos h2]
      refine ⟨?_, by omega⟩
      congr 1
      omega
    · have hb : Nat.blt j n = false := by
        cases e : Nat.blt j n with
        | false => rfl
        | true => exact absurd (Nat.blt_eq.mp e) hj
      simp only [hb] at h
      cases h
theorem at_ix {α : Type} {xs : List α} {i : Int} {d : α} (h : at_ xs i = some d) : ∃ k, ixN xs.length i = some k ∧ xs[k]? = some d := by
  unfold at_ at h
  cases e : place xs.length i with
  | none => rw [e] at h; cases h
  | some k =>
    rw [e] at h
    have h : nth xs k = some d := h
    rw [nth_eq] at h
    exact ⟨k, (place_ix e).1, h⟩
theorem at_pr {α β : Type} {F : α → β → Prop} {xs : List α} {ys : List β} (r : Paired F xs ys) {i : Int} {d : α} (h : at_ xs i = some d) : ∃ v, atI ys i = some v ∧ F d v := by
  obtain ⟨k, h1, h2⟩ := at_ix h
  obtain ⟨v, h3, h4⟩ := Pr.get r h2
  refine ⟨v, ?_, h4⟩
  unfold atI
  rw [← r.length, h1]
  exact h3
def vIx (K : PySem.W.Frag) : R2 := fun x y H Q => ∃ μ dx dy st d st', StR K μ H st ∧ Rep K μ H dx x ∧ Rep K μ H dy y ∧ item dx dy st = .ok d st' ∧ Post K μ H d st' Q
section
variable {X : Cx}
theorem ix_all (hu : X.A.units + 200 < cLine) : IxR X (vIx X.K) := by
  intro value slice pins s σ H x y v u Q I rx ry ⟨μ, dx, dy, st, d, st', S, r1, r2, h, p⟩ hs
  cases dx with
  | tup xs =>
    cases dy with
    | int i =>
      obtain ⟨a, vs, o, rfl, ha, hv⟩ := r1
      cases (show y = .int i from r2)
      have h : (match at_ xs i with | some d => R.ok d st | none => .no) = .ok d st' := h
      cases e : at_ xs i with
      | none => rw [e] at h; cases h
      | some d' =>
        rw [e] at h
        cases h
        obtain ⟨w, e1, e2⟩ := at_pr (RepL.iff.mp hv) e
        exact ix_tup value slice pins s σ H _ _ v u Q I rx ry ⟨a, vs, i, w, rfl, rfl, .inl (.inr ⟨_, ha⟩), e1, p μ w H .refl e2 S⟩ hs
    | _ => cases h
  | str z =>
    cases dy with
    | int i =>
      cases (show x = .str z from r1)
      cases (show y = .int i from r2)
      have h : (if small z.length = true then (match at_ z.cps.toList i with | some c => R.ok (D.str ⟨#[c]⟩) st | none => .no) else .no) = .ok d st' := h
      obtain ⟨hz, h⟩ := ite_ok h
      cases e : at_ z.cps.toList i with
      | none => rw [e] at h; cases h
      | some c =>
        rw [e] at h
        cases h
        obtain ⟨k, e1, e2⟩ := at_ix e
        refine ix_str value slice pins s σ H _ _ v u Q I rx ry ⟨z, i, c, rfl, rfl, small_iff hz, ?_, p.str S⟩ hs
        unfold atI
        rw [e1]
        exact e2
    | _ => cases h
  | rol ns =>
    cases dy with
    | int i =>
      obtain ⟨a, rfl, ha⟩ := r1
      cases (show y = .int i from r2)
      have h : (match at_ ns i with | some n => R.ok (D.int n) st | none => .no) = .ok d st' := h
      cases e : at_ ns i with
      | none => rw [e] at h; cases h
      | some n =>
        rw [e] at h
        cases h
        obtain ⟨k, e1, e2⟩ := at_ix e
        refine ix_list value slice pins s σ H _ _ v u Q I rx ry ⟨a, ns.map V.int, i, .int n, rfl, rfl, ha.seq, ?_, p.int S⟩ hs
        unfold atI
        rw [List.length_map, e1]
        show (ns.map V.int)[k]? = some (.int n)
        rw [List.getElem?_map, e2]
        rfl
    | _ => cases h
  | ref l =>
    obtain ⟨a, ha, rfl⟩ := r1
    simp only [item] at h
    cases e1 : sgetR st l with
    | none => rw [e1] at h; cases h
    | some o =>
      rw [e1] at h
      cases o with
      | lst xs =>
        cases dy with
        | int i =>
          cases (show y = .int i from r2)
          have h : (match at_ xs i with | some d => R.ok d st | none => .no) = .ok d st' := h
          cases e : at_ xs i with
          | none => rw [e] at h; cases h
          | some d' =>
            rw [e] at h
            cases h
            obtain ⟨vs, h1, hv⟩ := S.lst ha (sgetR_lst e1)
            obtain ⟨w, e2, e3⟩ := at_pr hv e
            exact ix_list value slice pins s σ H _ _ v u Q I rx ry ⟨a, vs, i, w, rfl, rfl, .inl (.inl h1), e2, p μ w H .refl e3 S⟩ hs
        | _ => cases h
      | dct kvs =>
        obtain ⟨hk, h⟩ := ite_ok (show (if kvOk dy kvs = true then (match kvGet dy kvs with | some d => R.ok d st | none => .no) else .no) = .ok d st' from h)
        cases e : kvGet dy kvs with
        | none => rw [e] at h; cases h
        | some d' =>
          rw [e] at h
          cases h
          obtain ⟨o, g, q1, q2⟩ := dct_get (S.dct ha e1) hk r2
          obtain ⟨w, ew, rw'⟩ := q1 _ e
          subst ew
          cases (show v = Value.ref a from rx)
          exact PyProof.Rows.tail_any (dict_typeIs I g) PySem.F.slot_dict_getitem.lookup (d_getItem (by omega) I g ry fun w' s' I2 r' => ⟨w, H, I2, r', p μ w H .refl rw' S⟩) hs
      | _ => cases h
  | _ => cases h
end
theorem cutAt_sIx (n d : Nat) (o : Option Int) : cutAt n d o = HT.sIx n d o := by
  cases o with
  | none => rfl
  | some v =>
    cases v with
    | ofNat k =>
      refine Eq.trans ?_ (HT.sIx_nat n d k).symm
      show (if Nat.blt k n = true then k else n) = min k n
      by_cases hj : k < n
      · rw [if_pos (Nat.blt_eq.mpr hj)]
        omega
      · rw [if_neg (fun e => hj (Nat.blt_eq.mp e))]
        omega
    | negSucc k =>
      have h1 : Int.negSucc k < 0 := Int.negSucc_lt_zero k
      show n - (k + 1) = if Int.negSucc k < 0 then (Int.negSucc k + (n : Int)).toNat else min (Int.negSucc k).toNat n
      rw [if_pos h1]
      omega
def vCut (K : PySem.W.Frag) : V → Option Int → Option Int → Hp → VK → Prop := fun x lo hi H Q => ∃ μ dx st d st', StR K μ H st ∧ Rep K μ H dx x ∧ cut dx lo hi st = .ok d st' ∧ Post K μ H d st' Q
theorem cutL_eq {α : Type} (xs : List α) (lo hi : Option Int) : cutL xs lo hi = (xs.drop (HT.sIx xs.length 0 lo)).take (HT.sIx xs.length xs.length hi - HT.sIx xs.length 0 lo) := by
  unfold cutL
  rw [cutAt_sIx, cutAt_sIx]
theorem cutL_len {α : Type} (xs : List α) (lo hi : Option Int) : (cutL xs lo hi).length ≤ xs.length := by
  unfold cutL
  rw [List.length_take, List.length_drop]
  omega
theorem cut_pr {α β : Type} {F : α → β → Prop} {xs : List α} {ys : List β} (r : Paired F xs ys) (lo hi : Option Int) : Paired F (cutL xs lo hi) (cutL ys lo hi) := by
  unfold cutL
  rw [r.length]
  exact Pr.take _ (Pr.drop _ r)
section
variable {X : Cx}
theorem sl_all : SlR X (vCut X.K) := by
  intro pins s σ H x v vl vu lo hi sl Q I rx hs pl pu ⟨μ, dx, st, d, st', S, r1, h, p⟩
  cases dx with
  | tup xs =>
    obtain ⟨a, vs, o, rfl, ha, hv⟩ := r1
    cases (show R.ok (D.tup (cutL xs lo hi)) st = .ok d st' from h)
    cases (show v = Value.ref a from rx)
    obtain ⟨its, rv, ht, hz⟩ := I.tuple (.inl (.inr ⟨_, ha⟩))
    have g := RepL.iff.mp hv
    have l1 := g.length
    have l2 := rv.length
    refine ⟨"tuple", _, PyProof.Rows.slot_tuple_getitem.lookup, ht.typeIs, ?_⟩
    by_cases hw : HT.sIx its.toArray.size 0 lo = 0 ∧ HT.sIx its.toArray.size its.toArray.size hi = its.toArray.size
    · refine getItem_tuple_whole ht hs pl pu hw ⟨.ref a, H, I, rfl, p μ _ H .refl ⟨a, vs, o, rfl, ha, ?_⟩ S⟩
      have e : cutL xs lo hi = xs := by
        rw [cutL_eq]
        have hn : its.toArray.size = xs.length := by simp; omega
        rw [hn] at hw
        rw [hw.1, hw.2]
        simp
      rw [e]
      exact hv
    · refine HT.getItem_tuple_cut ht hs pl pu hw ?_ (by simp; omega)
      have e : List.take (HT.sIx its.toArray.size its.toArray.size hi - HT.sIx its.toArray.size 0 lo) (List.drop (HT.sIx its.toArray.size 0 lo) its) = cutL its lo hi := by
        rw [cutL_eq]
        simp
      have q := tup_end (tk := s.toks) (us := cutL its lo hi) (vs := cutL vs lo hi) I S (cut_pr g lo hi) (cut_pr rv lo hi) (Nat.le_trans (cutL_len _ _ _) (by omega)) p
      simpa [tupO, cutL_eq] using q
  | str z =>
    cases (show x = .str z from r1)
    obtain ⟨hz, h⟩ := ite_ok (show (if small z.length = true then R.ok (D.str ⟨(cutL z.cps.toList lo hi).toArray⟩) st else .no) = .ok d st' from h)
    cases h
    refine sl_str pins s σ H _ v vl vu lo hi sl Q I rx hs pl pu ⟨z, rfl, small_iff hz, ?_⟩
    have e : cutS z lo hi = ⟨(cutL z.cps.toList lo hi).toArray⟩ := by
      rw [cutL_eq, Array.length_toList]
      rfl
    rw [e]
    exact p.str S
  | ref l =>
    obtain ⟨a, ha, rfl⟩ := r1
    simp only [cut] at h
    cases e1 : sget st l with
    | none => rw [e1] at h; cases h
    | some o =>
      rw [e1] at h
      cases o with
      | lst xs =>
        obtain ⟨rfl, rfl⟩ := new_ok h
        obtain ⟨vs, h1, hv⟩ := S.lst ha e1
        refine sl_list pins s σ H _ v vl vu lo hi sl Q I rx hs pl pu ⟨a, vs, rfl, .inl (.inl h1), ?_⟩
        have e : cutV vs lo hi = cutL vs lo hi := by
          rw [cutL_eq]
          rfl
        rw [e]
        exact p.lay S (fun z => z) (obj_lst S (cut_pr hv lo hi))
      | _ => cases h
  | _ => cases h
/-! ### o[i] = v -/
def vSet (K : PySem.W.Frag) : TSet := fun o i v H Q => ∃ μ dx dy dv st st' u, StR K μ H st ∧ Rep K μ H dx o ∧ Rep K μ H dy i ∧ Rep K μ H dv v ∧ store dx dy dv st = .ok u st' ∧ ∀ H', Le μ H μ H' → StR K μ H' st' → Q H'
theorem kvr_set {K : PySem.W.Frag} {μ : List Addr} {H : Hp} {k : Key} {d : D} {v : V} (rv : Rep K μ H d v) : ∀ {kvs : List (D × D)} {l : List (Key × V)}, KVR K μ H kvs l → KVR K μ H (kvSet (kD k) d kvs) (l.map fun kv => if kv.1 = k then (kv.1, v) else kv)
  | _, _, .nil => .nil
  | p :: kvs, q :: l, .cons r t => by
    obtain ⟨r1, r2⟩ := r
    have e : kvSet (kD k) d (p :: kvs) = (if D.eqv p.1 (kD k) = true then (p.1, d) else p) :: kvSet (kD k) d kvs := rfl
    rw [e, List.map_cons, r1, eqv_kD]
    refine .cons ?_ (kvr_set rv t)
    by_cases h : q.1 = k
    · rw [decide_eq_true h, if_pos rfl, if_pos h]
      exact ⟨rfl, rv⟩
    · rw [decide_eq_false h, if_neg (by decide), if_neg h]
      exact ⟨r1, r2⟩
theorem kvr_put {K : PySem.W.Frag} {μ : List Addr} {H : Hp} {k : Key} {d : D} {v : V} (rv : Rep K μ H d v) {kvs : List (D × D)} {l : List (Key × V)} (r : KVR K μ H kvs l) : KVR K μ H (kvPut (kD k) d kvs) (putK l k v) := by
  obtain ⟨g1, g2⟩ := kv_get (k := k) r
  unfold kvPut putK
  rw [valV_any]
  cases e : kvGet (kD k) kvs with
  | none =>
    rw [g2 e]
    exact Pr.app r (.cons ⟨rfl, rv⟩ .nil)
  | some d' =>
    obtain ⟨w, ew, _⟩ := g1 d' e
    rw [ew]
    exact kvr_set rv r
theorem set_all (hu : X.A.units + 200 < cLine) : PSet X (vSet X.K) := by
  intro pins s σ H o i v ov iv u Q I r1 r2 r3 ⟨μ, dx, dy, dv, st, st', u', S, q1, q2, q3, h, k⟩
  cases dx with
  | ref l =>
    obtain ⟨a, ha, rfl⟩ := q1
    simp only [store] at h
    cases e1 : sget st l with
    | none => rw [e1] at h; cases h
    | some ob =>
      rw [e1] at h
      cases ob with
      | lst xs =>
        cases dy with
        | int n =>
          cases (show i = .int n from q2)
          have h : (match place xs.length n with | some j => R.ok () (sput st l (.lst (setN xs j dv))) | none => .no) = .ok u' st' := h
          cases e : place xs.length n with
          | none => rw [e] at h; cases h
          | some j =>
            rw [e] at h
            cases h
            obtain ⟨vs, h1, hv⟩ := S.lst ha e1
            obtain ⟨p1, p2⟩ := place_ix e
            refine set_list pins s σ H _ _ v ov iv u Q I r1 r2 r3 ⟨a, vs, n, j, rfl, rfl, h1, by rw [← hv.length]; exact p1, ?_⟩
            have L := le_put ha h1 (fun z => z) (.lst (vs.set j v))
            refine k _ L ?_
            rw [sput_eq, setN_eq]
            exact S.put ha h1 (fun z => z) ⟨_, upd_same, RepL.iff.mpr (Pr.set j (Pr.imp hv fun _ _ r => r.mono L) (q3.mono L))⟩
        | _ => cases h
      | dct kvs =>
        obtain ⟨hb, h⟩ := ite_ok (show (if (kvOk dy kvs && Nat.blt kvs.length line) = true then R.ok () (sput st l (.dct (kvPut dy dv kvs))) else .no) = .ok u' st' from h)
        cases h
        obtain ⟨hk, hz⟩ := b_and hb
        obtain ⟨l', h1, h2⟩ := (show ∃ l, H a = some (.dK l) ∧ KVR X.K μ H kvs l from S.at_ ha e1)
        unfold kvOk at hk
        cases ek : D.kk dy with
        | none => rw [ek] at hk; cases hk
        | some b =>
          cases b with
          | true => cases dy <;> cases ek
          | false =>
            obtain ⟨key, rfl⟩ := kk_false ek
            have hz2 : l'.length < sizeLine := by
              have := Nat.blt_eq.mp hz
              rw [← h2.length, sizeLine_eq]
              exact this
            cases (show ov = Value.ref a from r1)
            have L := le_put ha h1 (fun z => z) (.dK (putK l' key v))
            refine d_setItem (by omega) I (DPut.k h1 hz2) (by rw [rep_kD q2] at r2; exact r2) r3 fun s' I2 => ⟨_, I2, k _ L ?_⟩
            rw [sput_eq]
            exact S.put ha h1 (fun z => z) ⟨_, upd_same, kvr_put (q3.mono L) (h2.mono L)⟩
      | _ => cases h
  | _ => cases h
/-! ### truth -/
def vTru (K : PySem.W.Frag) : V → Hp → (Bool → Hp → Prop) → Prop := fun x H Q => ∃ μ d st b, StR K μ H st ∧ Rep K μ H d x ∧ truth st d = some b ∧ Q b H
theorem tru_all : TruR X (vTru X.K) := by
  intro pins s σ H x v Q I rx ⟨μ, d, st, b, S, r, h, q⟩
  refine tru_ok pins s σ H x v Q I rx ⟨b, ?_, q⟩
  cases d with
  | non => cases (show x = .non from r); exact (Option.some.inj h).symm
  | bl c => cases (show x = .bl c from r); exact (Option.some.inj h).symm
  | int c => cases (show x = .int c from r); exact (Option.some.inj h).symm
  | str z =>
    cases (show x = .str z from r)
    obtain ⟨hz, h⟩ := ifO (show (if small z.length = true then some (!z.cps.toList.isEmpty) else none) = some b from h)
    refine ⟨small_iff hz, ?_⟩
    rw [← Option.some.inj h]
    show (!z.cps.toList.isEmpty) = ((z.cps.size : Int) != 0)
    cases e : z.cps.toList with
    | nil =>
      have : z.cps.size = 0 := by rw [← Array.length_toList, e]; rfl
      rw [this]
      rfl
    | cons c r =>
      have : z.cps.size = r.length + 1 := by rw [← Array.length_toList, e]; rfl
      rw [this]
      simp
      omega
  | tup xs =>
    obtain ⟨a, vs, o, rfl, ha, hv⟩ := r
    have e : b = !vs.isEmpty := by
      rw [← Option.some.inj h]
      have g := RepL.iff.mp hv
      cases g <;> rfl
    exact .inr (.inl ⟨vs, .inl (.inr ⟨_, ha⟩), e⟩)
  | ref l =>
    obtain ⟨a, ha, rfl⟩ := r
    simp only [truth] at h
    cases e1 : sgetR st l with
    | none => rw [e1] at h; cases h
    | some ob =>
      rw [e1] at h
      cases ob with
      | lst xs =>
        obtain ⟨vs, h1, hv⟩ := S.lst ha (sgetR_lst e1)
        have e : b = !vs.isEmpty := by
          rw [← Option.some.inj h]
          cases hv <;> rfl
        exact .inl ⟨vs, .inl (.inl h1), e⟩
      | _ => cases h
  | fn _ => exact r.elim
  | rol _ => cases h
end
end Ev
end

section
set_option Elab.async false
set_option linter.all false
set_option maxRecDepth 100000
set_option maxHeartbeats 2000000
/-! Snd6: the readings by the runner, and the rules for expressions. -/
namespace Ev
open PySem PySem.Spec L2
/-- what is wanted of an exception -/
abbrev ZT := List Addr → Hp → Exn → Sto → Prop
def ZMono (Z : ZT) : Prop := ∀ (μ : List Addr) (H : Hp) (μ' : List Addr) (H' : Hp) (x : Exn) (st : Sto), Le μ H μ' H' → Z μ H x st → Z μ' H' x st
def Z0 : ZT := fun _ _ _ _ => False
theorem z0_mono : ZMono Z0 := fun _ _ _ _ _ _ _ h => h
section
variable {α β : Type} {r : R α} {f : α → Sto → R β} {Q : β → Sto → Prop} {P P' : α → Sto → Prop} {Z Z' : Exn → Sto → Prop}
theorem pst_bind (h : (r.bind f).pst Q Z) : r.pst (fun a st => (f a st).pst Q Z) Z := by
  cases r <;> exact h
theorem bind_pst (h : r.pst (fun a st => (f a st).pst Q Z) Z) : (r.bind f).pst Q Z := by
  cases r <;> exact h
theorem pst_mono (h : r.pst P Z) (hp : ∀ a st, P a st → P' a st) (hz : ∀ x st, Z x st → Z' x st) : r.pst P' Z' := by
  cases r with
  | ok a st => exact hp _ _ h
  | no => exact h
  | ex x st => exact hz _ _ h
theorem pst_val (h : r.val.pst P Z) : ∃ a st, r = .ok a st ∧ P a st := by
  cases r with
  | ok a st => exact ⟨a, st, rfl, h⟩
  | no => exact h.elim
  | ex x st => exact h.elim
theorem val_pst (h : r.val.pst P Z) : r.pst P Z' := by
  cases r with
  | ok a st => exact h
  | no => exact h.elim
  | ex x st => exact h.elim
theorem pst_okO {o : Option α} {st : Sto} (h : (okO st o).pst P Z) : ∃ a, o = some a ∧ P a st := by
  cases o with
  | none => exact h.elim
  | some a => exact ⟨a, rfl, h⟩
theorem pst_ofB {o : Option Bool} {st : Sto} {P : D → Sto → Prop} (h : (ofB st o).pst P Z) : ∃ a, o = some a ∧ P (.bl a) st := by
  cases o with
  | none => exact h.elim
  | some a => exact ⟨a, rfl, h⟩
theorem pst_ite {b : Bool} (h : (if b = true then r else R.no).pst P Z) : b = true ∧ r.pst P Z := by
  cases b with
  | true => exact ⟨rfl, by simpa using h⟩
  | false =>
    rw [if_neg (by decide)] at h
    exact h.elim
end
theorem Post.mono {K : PySem.W.Frag} {μ μ' : List Addr} {H H' : Hp} {d : D} {st : Sto} {Q : VK} (p : Post K μ H d st Q) (L : Le μ H μ' H') : Post K μ' H' d st Q := fun μ2 v H2 L2 r S => p μ2 v H2 (L.trans L2) r S
def PostA (K : PySem.W.Frag) (μ : List Addr) (H : Hp) (ds : List D) (st' : Sto) (Q : List V → Hp → Prop) : Prop := ∀ μ' vs H', Le μ H μ' H' → RepL K μ' H' ds vs → StR K μ' H' st' → Q vs H'
def PostT (K : PySem.W.Frag) (μ : List Addr) (H : Hp) (b : Bool) (st' : Sto) (Q : Bool → Hp → Prop) : Prop := ∀ μ' H', Le μ H μ' H' → StR K μ' H' st' → Q b H'
/-- an item as an iterator gives it -/
def ItemR (K : PySem.W.Frag) (pr : Bool) (μ : List Addr) (H H' : Hp) (d : D) (x : V) : Prop := match pr with
  | false => H' = H ∧ Rep K μ H d x
  | true => ∃ T v w d1 d2, d = .tup [d1, d2] ∧ x = .ref T ∧ H T = none ∧ H' = upd H T (.tup [v, w]) ∧ Rep K μ H d1 v ∧ Rep K μ H d2 w
/-- an iterator that gives these items -/
def ItOk (K : PySem.W.Frag) (J : L2.It) (it : Ev.It) (μ : List Addr) (H : Hp) : Prop := ∀ (i : Nat) μ2 H2 st2, Le μ H μ2 H2 → StR K μ2 H2 st2 → srcOk st2 it.src = true →
  (∀ d, it.items[i]? = some d → J.go i H2 ∧ ∀ x H3, J.yld i H2 x H3 → ItemR K it.pr μ2 H2 H3 d x) ∧ (it.items[i]? = none → J.stop i H2)
def PostI (K : PySem.W.Frag) (μ : List Addr) (H : Hp) (it : Ev.It) (st' : Sto) (R : L2.It → Hp → Prop) : Prop := ∀ μ' J H', Le μ H μ' H' → StR K μ' H' st' → ItOk K J it μ' H' → R J H'
def PostS (K : PySem.W.Frag) (μ : List Addr) (H : Hp) (o : Out) (st' : Sto) (D : Ends) : Prop := match o with
  | .nx env => ∀ μ' σ' H', Le μ H μ' H' → EnvR K μ' H' env σ' → StR K μ' H' st' → D.nx σ' H'
  | .rt d => ∀ μ' v H', Le μ H μ' H' → Rep K μ' H' d v → StR K μ' H' st' → D.rt v H'
  | .bk env => ∀ μ' σ' H', Le μ H μ' H' → EnvR K μ' H' env σ' → StR K μ' H' st' → D.bk σ' H'
  | .ct env => ∀ μ' σ' H', Le μ H μ' H' → EnvR K μ' H' env σ' → StR K μ' H' st' → D.ct σ' H'
section
variable (K : PySem.W.Frag) (Z : ZT) (r : Ev)
def tE (e : E) : TE := fun σ H Q => ∃ μ env st, EnvR K μ H env σ ∧ StR K μ H st ∧ (r.e e env st).pst (fun d st' => Post K μ H d st' Q) (Z μ H)
def tEs (e : E) : TA := fun σ H Q => ∃ μ env st, EnvR K μ H env σ ∧ StR K μ H st ∧ (r.es e env st).pst (fun d st' => PostA K μ H d st' Q) (Z μ H)
def tT (e : E) : TT := fun σ H Q => ∃ μ env st, EnvR K μ H env σ ∧ StR K μ H st ∧ (r.t e env st).pst (fun d st' => PostT K μ H d st' Q) (Z μ H)
def tI (e : E) : TI := fun σ H Q => ∃ μ env st, EnvR K μ H env σ ∧ StR K μ H st ∧ (r.i e env st).pst (fun d st' => PostI K μ H d st' Q) (Z μ H)
def tS (s : S) : TS := fun D σ H => ∃ μ env st, EnvR K μ H env σ ∧ StR K μ H st ∧ (r.s s env st).pst (fun d st' => PostS K μ H d st' D) (Z μ H)
end
section
variable {K : PySem.W.Frag} {Z : ZT} {r : Ev} {μ : List Addr} {H : Hp} {env : Env} {σ : L2.St} {st : Sto} {β : Type} {A : β → Sto → Prop} {e : E}
theorem seqE (hz : ZMono Z) (hE : EnvR K μ H env σ) (hS : StR K μ H st) {f : D → Sto → R β} (h : ((r.e e env st).bind f).pst A (Z μ H)) {Q : VK}
    (k : ∀ d st1 μ1 v H1, Le μ H μ1 H1 → Rep K μ1 H1 d v → StR K μ1 H1 st1 → (f d st1).pst A (Z μ1 H1) → Q v H1) : tE K Z r e σ H Q :=
  ⟨μ, env, st, hE, hS, pst_mono (pst_bind h) (fun d st1 q μ1 v H1 L rv S => k d st1 μ1 v H1 L rv S (pst_mono q (fun _ _ z => z) fun _ _ z => hz _ _ _ _ _ _ L z)) fun _ _ z => z⟩
theorem seqA (hz : ZMono Z) (hE : EnvR K μ H env σ) (hS : StR K μ H st) {f : List D → Sto → R β} (h : ((r.es e env st).bind f).pst A (Z μ H)) {Q : List V → Hp → Prop}
    (k : ∀ d st1 μ1 v H1, Le μ H μ1 H1 → RepL K μ1 H1 d v → StR K μ1 H1 st1 → (f d st1).pst A (Z μ1 H1) → Q v H1) : tEs K Z r e σ H Q :=
  ⟨μ, env, st, hE, hS, pst_mono (pst_bind h) (fun d st1 q μ1 v H1 L rv S => k d st1 μ1 v H1 L rv S (pst_mono q (fun _ _ z => z) fun _ _ z => hz _ _ _ _ _ _ L z)) fun _ _ z => z⟩
theorem seqT (hz : ZMono Z) (hE : EnvR K μ H env σ) (hS : StR K μ H st) {f : Bool → Sto → R β} (h : ((r.t e env st).bind f).pst A (Z μ H)) {Q : Bool → Hp → Prop}
    (k : ∀ d st1 μ1 H1, Le μ H μ1 H1 → StR K μ1 H1 st1 → (f d st1).pst A (Z μ1 H1) → Q d H1) : tT K Z r e σ H Q :=
  ⟨μ, env, st, hE, hS, pst_mono (pst_bind h) (fun d st1 q μ1 H1 L S => k d st1 μ1 H1 L S (pst_mono q (fun _ _ z => z) fun _ _ z => hz _ _ _ _ _ _ L z)) fun _ _ z => z⟩
theorem seqI (hz : ZMono Z) (hE : EnvR K μ H env σ) (hS : StR K μ H st) {f : Ev.It → Sto → R β} (h : ((r.i e env st).bind f).pst A (Z μ H)) {Q : L2.It → Hp → Prop}
    (k : ∀ d st1 μ1 J H1, Le μ H μ1 H1 → ItOk K J d μ1 H1 → StR K μ1 H1 st1 → (f d st1).pst A (Z μ1 H1) → Q J H1) : tI K Z r e σ H Q :=
  ⟨μ, env, st, hE, hS, pst_mono (pst_bind h) (fun d st1 q μ1 J H1 L S rv => k d st1 μ1 J H1 L rv S (pst_mono q (fun _ _ z => z) fun _ _ z => hz _ _ _ _ _ _ L z)) fun _ _ z => z⟩
/-- the last step of all -/
theorem endE (hz : ZMono Z) {μ0 : List Addr} {H0 : Hp} (L : Le μ0 H0 μ H) (hE : EnvR K μ H env σ) (hS : StR K μ H st) {Q : VK} (h : (r.e e env st).pst (fun d st' => Post K μ0 H0 d st' Q) (Z μ H)) : tE K Z r e σ H Q :=
  ⟨μ, env, st, hE, hS, pst_mono h (fun _ _ p => p.mono L) fun _ _ z => z⟩
end
theorem impE {X : Cx} {e : Expr} {t t' : TE} (h : PE X e t) (k : ∀ σ H Q, t' σ H Q → t σ H Q) : PE X e t' := ⟨fun pins s σ H Q I q => h.run pins s σ H Q I (k σ H Q q)⟩
theorem impT {X : Cx} {e : Expr} {t t' : TT} (h : PT X e t) (k : ∀ σ H Q, t' σ H Q → t σ H Q) : PT X e t' := ⟨fun pins s σ H Q I q => h.run pins s σ H Q I (k σ H Q q)⟩
theorem impA {X : Cx} {e : List Expr} {t t' : TA} (h : PA X e t) (k : ∀ σ H Q, t' σ H Q → t σ H Q) : PA X e t' := ⟨fun pos pins s σ H Q I q => h.run pos pins s σ H Q I (k σ H Q q)⟩
theorem impI {X : Cx} {g e : Expr} {t t' : TI} (h : PI X g e t) (k : ∀ σ H Q, t' σ H Q → t σ H Q) : PI X g e t' := ⟨fun pins s σ H Q I q => h.run pins s σ H Q I (k σ H Q q)⟩
theorem impS {X : Cx} {e : Stmt} {t t' : TS} (h : PS X e t) (k : ∀ D σ H, t' D σ H → t D σ H) : PS X e t' := ⟨fun pins s σ H D I q => h.run pins s σ H D I (k D σ H q)⟩
theorem impSs {X : Cx} {e : List Stmt} {t t' : TS} (h : PSs X e t) (k : ∀ D σ H, t' D σ H → t D σ H) : PSs X e t' := ⟨fun pins s σ H D I q => h.run pins s σ H D I (k D σ H q)⟩
/-! ### arguments -/
def nst : Expr → Bool
  | .Starred _ _ => false
  | _ => true
def nsts : List Expr → Bool
  | [] => true
  | e :: es => nst e && nsts es
theorem star_cons {e : Expr} {es : List Expr} {env : PySem.Env} (h : nst e = true) : starEach (e :: es) env = (false, eval e env) :: starEach es env := by
  cases e <;> first | rfl | cases h
section
variable {X : Cx} {Z : ZT} {P : List Fn} {n : Nat} {r rc : Ev} {a b c : E} {xa xb xc : Expr} {pos : Pos}
theorem a_nil : PA X [] (tEs X.K Z (step P n r rc) .nil) := impA pa_nil fun σ H Q ⟨μ, env, st, hE, hS, h⟩ => h μ [] H .refl rfl hS
theorem a_cons {xs : List Expr} (hz : ZMono Z) (ha : PE X xa (tE X.K Z r a)) (hb : PA X xs (tEs X.K Z r b)) (hs : nst xa = true) : PA X (xa :: xs) (tEs X.K Z (step P n r rc) (.cons a b)) :=
  impA (pa_cons ha hb (star_cons hs)) fun σ H Q ⟨μ, env, st, hE, hS, h⟩ =>
    seqE hz hE hS h fun d st1 μ1 v H1 L1 r1 S1 h1 => seqA hz (hE.mono L1) S1 h1 fun ds st2 μ2 vs H2 L2 r2 S2 h2 => h2 μ2 (v :: vs) H2 (L1.trans L2) ⟨v, vs, rfl, r1.mono L2, r2⟩ S2
/-! ### names, constants -/
theorem e_var {i : Nat} {x : Str} (hN : X.N[i]? = some x) (hv : Vis X.env.scope x) (hd : (x == ("__debug__" : Str)) = false) (hcd : (x == ("__classdict__" : Str)) = false) : PE X (.Name x pos) (tE X.K Z (step P n r rc) (.var i)) :=
  impE (pe_var hN hv hd hcd) fun σ H Q ⟨μ, env, st, hE, hS, h⟩ => by
    obtain ⟨d, e, p⟩ := pst_okO h
    obtain ⟨v, h1, h2⟩ := hE.at_ i d e
    exact ⟨v, h1, p μ v H .refl h2 hS⟩
/-- constants as they are written -/
def cstOk : D → Const → Bool
  | .non, .none => true
  | .bl a, .bool b => a == b
  | .int i, .int j => i == j
  | .str x, .str y => decide (x = y)
  | _, _ => false
theorem e_cst {d : D} {k : Const} {j : Nat} (h : cstOk d k = true) : PE X (.Constant k j pos) (tE X.K Z (step P n r rc) (.cst d)) := by
  cases d <;> cases k <;> first | (exact absurd h Bool.false_ne_true) | skip
  · exact impE pe_non fun σ H Q ⟨μ, env, st, hE, hS, h⟩ => h.non hS
  · cases eq_of_beq (show (_ == _) = true from h)
    exact impE pe_bl fun σ H Q ⟨μ, env, st, hE, hS, h⟩ => h.bl hS
  · cases eq_of_beq (show (_ == _) = true from h)
    exact impE pe_int fun σ H Q ⟨μ, env, st, hE, hS, h⟩ => h.int hS
  · cases of_decide_eq_true (show decide _ = true from h)
    exact impE pe_str fun σ H Q ⟨μ, env, st, hE, hS, h⟩ => h.str hS
/-! ### operators -/
theorem e_bin (hz : ZMono Z) {o : Bop} (ha : PE X xa (tE X.K Z r a)) (hb : PE X xb (tE X.K Z r b)) : PE X (.BinOp xa (pyB o) xb pos) (tE X.K Z (step P n r rc) (.bin o a b)) :=
  impE (pe_op (op_bin o) ha hb) fun σ H Q ⟨μ, env, st, hE, hS, h⟩ =>
    seqE hz hE hS h fun d st1 μ1 v H1 L1 r1 S1 h1 => seqE hz (hE.mono L1) S1 h1 fun d2 st2 μ2 v2 H2 L2 r2 S2 h2 => by
      obtain ⟨d3, st3, e, q⟩ := pst_val h2
      exact ⟨μ2, d, d2, st2, d3, st3, S2, r1.mono L2, r2, e, q.mono (L1.trans L2)⟩
theorem e_neg (hz : ZMono Z) (ha : PE X xa (tE X.K Z r a)) : PE X (.UnaryOp .USub xa pos) (tE X.K Z (step P n r rc) (.neg a)) :=
  impE (pe_un un_neg ha) fun σ H Q ⟨μ, env, st, hE, hS, h⟩ =>
    seqE hz hE hS h fun d st1 μ1 v H1 L1 r1 S1 h1 => by
      cases d with
      | int i => exact ⟨i, r1, h1 μ1 (.int (-i)) H1 L1 rfl S1⟩
      | _ => exact h1.elim
theorem e_cmp (hu : X.A.units + 200 < cLine) (hz : ZMono Z) {o : Cop} (ha : PE X xa (tE X.K Z r a)) (hb : PE X xb (tE X.K Z r b)) (hm : behindInMarks (pyC o) xb = false) : PE X (.Compare xa [pyC o] [xb] pos) (tE X.K Z (step P n r rc) (.cmp o a b)) :=
  impE (pe_cmpR (op_cmp hu o) ha hb hm) fun σ H Q ⟨μ, env, st, hE, hS, h⟩ =>
    seqE hz hE hS h fun d st1 μ1 v H1 L1 r1 S1 h1 => seqE hz (hE.mono L1) S1 h1 fun d2 st2 μ2 v2 H2 L2 r2 S2 h2 => by
      obtain ⟨k, e, q⟩ := pst_ofB h2
      exact ⟨μ2, d, d2, st2, k, S2, r1.mono L2, r2, e, q.mono (L1.trans L2)⟩
theorem t_cmp (hu : X.A.units + 200 < cLine) (hz : ZMono Z) {o : Cop} (ha : PE X xa (tE X.K Z r a)) (hb : PE X xb (tE X.K Z r b)) (hm : behindInMarks (pyC o) xb = false) : PT X (.Compare xa [pyC o] [xb] pos) (fun σ H Q => tE X.K Z (step P n r rc) (.cmp o a b) σ H fun x H' => ∃ k, x = .bl k ∧ Q k H') :=
  impT (pt_cmpR (op_cmp hu o) ha hb hm) fun σ H Q ⟨μ, env, st, hE, hS, h⟩ =>
    seqE hz hE hS h fun d st1 μ1 v H1 L1 r1 S1 h1 => seqE hz (hE.mono L1) S1 h1 fun d2 st2 μ2 v2 H2 L2 r2 S2 h2 => by
      obtain ⟨k, e, q⟩ := pst_ofB h2
      exact ⟨μ2, d, d2, st2, k, S2, r1.mono L2, r2, e, q.mono (L1.trans L2)⟩
theorem cmp2_core {o p : Cop} (hz : ZMono Z) {σ : L2.St} {H : Hp} {Q : VK} (h : tE X.K Z (step P n r rc) (.cmp2 o p a b c) σ H Q) :
    tChain (vCmp X.K (cmpop o)) (vCmp X.K (cmpop p)) (tE X.K Z r a) (tE X.K Z r b) (tE X.K Z r c) σ H Q := by
  obtain ⟨μ, env, st, hE, hS, h⟩ := h
  refine seqE hz hE hS h fun d st1 μ1 v H1 L1 r1 S1 h1 => seqE hz (hE.mono L1) S1 h1 fun d2 st2 μ2 v2 H2 L2 r2 S2 h2 => ?_
  cases e : cmpop o d d2 st2 with
  | none => rw [e] at h2; exact h2.elim
  | some k =>
    refine ⟨μ2, d, d2, st2, k, S2, r1.mono L2, r2, e, fun μ3 v3 H3 L3 r3 S3 => ⟨k, r3, ?_⟩⟩
    rw [e] at h2
    cases k with
    | false => exact h2 μ3 _ H3 ((L1.trans L2).trans L3) rfl S3
    | true =>
      refine seqE hz (((hE.mono L1).mono L2).mono L3) S3 (pst_mono h2 (fun _ _ z => z) fun _ _ z => hz _ _ _ _ _ _ L3 z) fun d4 st4 μ4 v4 H4 L4 r4 S4 h4 => ?_
      obtain ⟨k, e, q⟩ := pst_ofB h4
      exact ⟨μ4, d2, d4, st4, k, S4, (r2.mono L3).mono L4, r4, e, q.mono (((L1.trans L2).trans L3).trans L4)⟩
theorem e_cmp2 (hu : X.A.units + 200 < cLine) (hz : ZMono Z) {o p : Cop} (ha : PE X xa (tE X.K Z r a)) (hb : PE X xb (tE X.K Z r b)) (hc : PE X xc (tE X.K Z r c)) (hm : lastMarks [pyC o, pyC p] [xb, xc] = false) :
    PE X (.Compare xa [pyC o, pyC p] [xb, xc] pos) (tE X.K Z (step P n r rc) (.cmp2 o p a b c)) := impE (pe_chain (op_cmp hu o) (op_cmp hu p) ha hb hc hm) fun σ H Q h => cmp2_core hz h
theorem t_cmp2 (hu : X.A.units + 200 < cLine) (hz : ZMono Z) {o p : Cop} (ha : PE X xa (tE X.K Z r a)) (hb : PE X xb (tE X.K Z r b)) (hc : PE X xc (tE X.K Z r c)) (hm : lastMarks [pyC o, pyC p] [xb, xc] = false) :
    PT X (.Compare xa [pyC o, pyC p] [xb, xc] pos) (fun σ H Q => tE X.K Z (step P n r rc) (.cmp2 o p a b c) σ H fun x H' => ∃ k, x = .bl k ∧ Q k H') := impT (pt_chain (op_cmp hu o) (op_cmp hu p) ha hb hc hm) fun σ H Q h => cmp2_core hz h
end
end Ev
end

section
set_option Elab.async false
set_option linter.all false
set_option maxRecDepth 100000
set_option maxHeartbeats 2000000
/-! Snd7: and, or, not; displays, items, slices; tests. -/
namespace Ev
open PySem PySem.Spec L2
section
variable {X : Cx} {Z : ZT} {P : List Fn} {n : Nat} {r rc : Ev} {a b c : E} {xa xb xc : Expr} {pos : Pos} {rest : List Expr}
theorem e_and (hz : ZMono Z) (ha : PE X xa (tE X.K Z r a)) (hb : PE X (.BoolOp .And (xb :: rest) pos) (tE X.K Z r b)) : PE X (.BoolOp .And (xa :: xb :: rest) pos) (tE X.K Z (step P n r rc) (.and a b)) :=
  impE (pe_and ha hb) fun σ H Q ⟨μ, env, st, hE, hS, h⟩ =>
    seqE hz hE hS h fun d st1 μ1 v H1 L1 r1 S1 h1 => by
      cases d with
      | bl k =>
        refine ⟨k, r1, ?_⟩
        cases k with
        | true => exact endE hz L1 (hE.mono L1) S1 h1
        | false => exact h1 μ1 (.bl false) H1 L1 rfl S1
      | _ => exact h1.elim
theorem e_or (hz : ZMono Z) (ha : PE X xa (tE X.K Z r a)) (hb : PE X (.BoolOp .Or (xb :: rest) pos) (tE X.K Z r b)) : PE X (.BoolOp .Or (xa :: xb :: rest) pos) (tE X.K Z (step P n r rc) (.or a b)) :=
  impE (pe_or ha hb) fun σ H Q ⟨μ, env, st, hE, hS, h⟩ =>
    seqE hz hE hS h fun d st1 μ1 v H1 L1 r1 S1 h1 => by
      cases d with
      | bl k =>
        refine ⟨k, r1, ?_⟩
        cases k with
        | false => exact endE hz L1 (hE.mono L1) S1 h1
        | true => exact h1 μ1 (.bl true) H1 L1 rfl S1
      | _ => exact h1.elim
theorem e_not (hz : ZMono Z) (ha : PE X xa (tE X.K Z r a)) : PE X (.UnaryOp .Not xa pos) (tE X.K Z (step P n r rc) (.not a)) :=
  impE (pe_not ha) fun σ H Q ⟨μ, env, st, hE, hS, h⟩ =>
    seqE hz hE hS h fun d st1 μ1 v H1 L1 r1 S1 h1 => by
      cases d with
      | bl k => exact ⟨k, r1, h1 μ1 (.bl (!k)) H1 L1 rfl S1⟩
      | _ => exact h1.elim
theorem e_ifx (hz : ZMono Z) (hc : PT X xc (tT X.K Z r c)) (ha : PE X xa (tE X.K Z r a)) (hb : PE X xb (tE X.K Z r b)) : PE X (.IfExp xc xa xb pos) (tE X.K Z (step P n r rc) (.ifx c a b)) :=
  impE (pe_ifExp hc ha hb) fun σ H Q ⟨μ, env, st, hE, hS, h⟩ =>
    seqT hz hE hS h fun d st1 μ1 H1 L1 S1 h1 => by
      cases d with
      | true => exact endE hz L1 (hE.mono L1) S1 h1
      | false => exact endE hz L1 (hE.mono L1) S1 h1
/-! ### displays -/
theorem pe_tupX {es : List Expr} {t : TA} {k : Nat} (h : PA X es t) : PE X (.Tuple es k pos) (fun σ H Q => t σ H fun xs H1 => xs.length ≤ sizeLine ∧ ∀ its p, H1 p = none → Q (.ref p) (upd H1 p (.frz (tupO its) (.tup xs)))) := by
  refine ⟨fun pins s σ H Q I hq => ?_⟩
  refine wpAny_Tuple_spliced (thn (h.run pos pins s σ H _ I hq) fun us s1 ⟨xs, H1, I1, r, z, q⟩ => ⟨by rw [← r.length]; exact z, ?_⟩)
  exact ⟨.ref s1.heap.objs.size, _, tup_push (tk := s1.toks) I1 r z, rfl, q _ _ (I1.hok.fresh (Nat.le_refl _))⟩
theorem e_tup {es : List Expr} {k : Nat} (hz : ZMono Z) (ha : PA X es (tEs X.K Z r a)) : PE X (.Tuple es k pos) (tE X.K Z (step P n r rc) (.tup a)) :=
  impE (pe_tupX ha) fun σ H Q ⟨μ, env, st, hE, hS, h⟩ =>
    seqA hz hE hS h fun ds st1 μ1 vs H1 L1 r1 S1 h1 => by
      obtain ⟨hs, p⟩ := pst_ite h1
      have g := RepL.iff.mp r1
      exact ⟨by rw [← g.length]; exact small_iff hs, fun its q hq => (Post.mono (show Post X.K μ H (.tup ds) st1 Q from p) L1).tup S1 g q hq⟩
theorem e_lst {es : List Expr} (hz : ZMono Z) (ha : PA X es (tEs X.K Z r a)) : PE X (.List es pos) (tE X.K Z (step P n r rc) (.lst a)) :=
  impE (pe_lst ha) fun σ H Q ⟨μ, env, st, hE, hS, h⟩ =>
    seqA hz hE hS h fun ds st1 μ1 vs H1 L1 r1 S1 h1 => by
      obtain ⟨hs, p⟩ := pst_ite h1
      have g := RepL.iff.mp r1
      exact ⟨by rw [← g.length]; exact small_iff hs, (Post.mono (show Post X.K μ H (.ref st1.length) (st1 ++ [.lst ds]) Q from p) L1).lay S1 (fun z => z) (obj_lst S1 g)⟩
theorem e_dic0 : PE X (.Dict [] [] pos) (tE X.K Z (step P (n + 1) (step P n r rc) rc) (.dic .nil)) :=
  impE pe_dnewK fun σ H Q ⟨μ, env, st, hE, hS, h⟩ => by
    have p : Post X.K μ H (.ref st.length) (st ++ [.dct []]) Q := h
    exact p.lay (o := .dct []) (ho := .dK []) hS (fun z => z) fun q hq => (⟨[], upd_same, .nil⟩ : ∃ l, upd H q (HO.dK []) q = some (HO.dK l) ∧ KVR X.K (μ ++ [q]) (upd H q (HO.dK [])) [] l)
/-! ### items, slices -/
def plIx : Expr → Bool
  | .Slice .. => false
  | .Constant .. => false
  | .Tuple .. => false
  | _ => true
theorem e_idx (hu : X.A.units + 200 < cLine) (hz : ZMono Z) (ha : PE X xa (tE X.K Z r a)) (hb : PE X xb (tE X.K Z r b)) (hp : PlainIx xb) : PE X (.Subscript xa xb pos) (tE X.K Z (step P n r rc) (.idx a b)) :=
  impE (pe_ix (ix_all hu) ha hb hp) fun σ H Q ⟨μ, env, st, hE, hS, h⟩ =>
    seqE hz hE hS h fun d st1 μ1 v H1 L1 r1 S1 h1 => seqE hz (hE.mono L1) S1 h1 fun d2 st2 μ2 v2 H2 L2 r2 S2 h2 => by
      obtain ⟨d3, st3, e, q⟩ := pst_val h2
      exact ⟨μ2, d, d2, st2, d3, st3, S2, r1.mono L2, r2, e, q.mono (L1.trans L2)⟩
/-- a slice's part -/
def tO (K : PySem.W.Frag) (Z : ZT) (r : Ev) (e : E) : TO := fun σ H Q => ∃ μ env st, EnvR K μ H env σ ∧ StR K μ H st ∧ (opt r.e e env st).pst (fun o st' => ∀ μ' H', Le μ H μ' H' → StR K μ' H' st' → Q o H') (Z μ H)
theorem o_none : PO X none (tO X.K Z r .none) := ⟨fun pins s σ H Q I ⟨μ, env, st, hE, hS, h⟩ => po_none.run pins s σ H Q I (h μ H .refl hS)⟩
theorem o_some (hz : ZMono Z) (h : PE X xa (tE X.K Z r a)) (hn : a ≠ .none) : PO X (some xa) (tO X.K Z r a) := ⟨fun pins s σ H Q I ⟨μ, env, st, hE, hS, q⟩ => by
  refine (po_some h).run pins s σ H Q I ?_
  have q : ((r.e a env st).bind fun d st => match d with | .int i => R.ok (some i) st | _ => .no).pst (fun o st' => ∀ μ' H', Le μ H μ' H' → StR X.K μ' H' st' → Q o H') (Z μ H) := by
    cases a <;> first | exact (hn rfl).elim | exact q
  exact seqE hz hE hS q fun d st1 μ1 v H1 L1 r1 S1 h1 => by
    cases d with
    | int i => exact ⟨i, r1, h1 μ1 H1 L1 S1⟩
    | _ => exact h1.elim⟩
theorem seqO {K : PySem.W.Frag} {μ : List Addr} {H : Hp} {env : Env} {σ : L2.St} {st : Sto} {β : Type} {A : β → Sto → Prop} {e : E} (hz : ZMono Z) (hE : EnvR K μ H env σ) (hS : StR K μ H st) {f : Option Int → Sto → R β} (h : ((opt r.e e env st).bind f).pst A (Z μ H)) {Q : Option Int → Hp → Prop}
    (k : ∀ d st1 μ1 H1, Le μ H μ1 H1 → StR K μ1 H1 st1 → (f d st1).pst A (Z μ1 H1) → Q d H1) : tO K Z r e σ H Q :=
  ⟨μ, env, st, hE, hS, pst_mono (pst_bind h) (fun d st1 q μ1 H1 L S => k d st1 μ1 H1 L S (pst_mono q (fun _ _ z => z) fun _ _ z => hz _ _ _ _ _ _ L z)) fun _ _ z => z⟩
theorem e_slc {lo hi : Option Expr} {p2 : Pos} (hz : ZMono Z) (ha : PE X xa (tE X.K Z r a)) (hl : PO X lo (tO X.K Z r b)) (hh : PO X hi (tO X.K Z r c)) : PE X (.Subscript xa (.Slice lo hi none p2) pos) (tE X.K Z (step P n r rc) (.slc a b c)) :=
  impE (pe_slice sl_all ha hl hh) fun σ H Q ⟨μ, env, st, hE, hS, h⟩ =>
    seqE hz hE hS h fun d st1 μ1 v H1 L1 r1 S1 h1 => seqO hz (hE.mono L1) S1 h1 fun o st2 μ2 H2 L2 S2 h2 => seqO hz ((hE.mono L1).mono L2) S2 h2 fun o' st3 μ3 H3 L3 S3 h3 => by
      obtain ⟨d3, st4, e, q⟩ := pst_val h3
      exact ⟨μ3, d, st3, d3, st4, S3, (r1.mono L2).mono L3, e, q.mono ((L1.trans L2).trans L3)⟩
theorem e_rev {k : Nat} {p1 p2 p3 : Pos} (hz : ZMono Z) (ha : PE X xa (tE X.K Z r a)) : PE X (.Subscript xa (.Slice none none (some (.UnaryOp .USub (.Constant (.int 1) k p1) p2)) p3) pos) (tE X.K Z (step P n r rc) (.rev a)) :=
  impE (pe_revL ha) fun σ H Q ⟨μ, env, st, hE, hS, h⟩ =>
    seqE hz hE hS h fun d st1 μ1 v H1 L1 r1 S1 h1 => by
      cases d with
      | ref l =>
        obtain ⟨a, ha, rfl⟩ := r1
        have h1 : (match sget st1 l with | some (.lst xs) => new (.lst xs.reverse) st1 | _ => R.no).pst (fun d st' => Post X.K μ H d st' Q) (Z μ1 H1) := h1
        cases e1 : sget st1 l with
        | none => rw [e1] at h1; exact h1.elim
        | some o =>
          rw [e1] at h1
          cases o with
          | lst xs =>
            obtain ⟨ws, h2, hv⟩ := S1.lst ha e1
            exact ⟨a, ws, rfl, .inl (.inl h2), (Post.mono (show Post X.K μ H (.ref st1.length) (st1 ++ [.lst xs.reverse]) Q from h1) L1).lay S1 (fun z => z) (obj_lst S1 (Pr.rev hv))⟩
          | _ => exact h1.elim
      | _ => exact h1.elim
/-! ### tests -/
def tst : Expr → Bool
  | .BoolOp .. | .IfExp .. | .Compare .. => false
  | .UnaryOp .Not _ _ => false
  | _ => true
theorem tst_ok {x : Expr} {env : PySem.Env} (h : tst x = true) : ∀ whole, isTrue x env whole = (do let v ← whole; standAt x.pos; holding [v] (truthy v)) := by
  intro whole
  cases x <;> first | rfl | (exact absurd h Bool.false_ne_true) | skip
  rename_i op a p
  cases op <;> first | rfl | exact absurd h Bool.false_ne_true
theorem pt_tru {t : TE} (ha : PE X xa t) (he : tst xa = true) : PT X xa (fun σ H Q => t σ H fun x H' => vTru X.K x H' Q) := by
  refine ⟨fun pins s σ H Q I h => ?_⟩
  exact PyProof.Rows.isTrue_plain (thn (ha.run pins s σ H _ I h) fun v s1 ⟨x, H1, I1, r1, q1⟩ => tru_all pins s1 σ H1 x v Q I1 r1 q1) (tst_ok he _)
end
end Ev
end

section
set_option Elab.async false
set_option linter.all false
set_option maxRecDepth 100000
set_option maxHeartbeats 2000000
/-! Snd8: built-ins. -/
namespace Ev
open PySem PySem.Spec L2
section
variable {K : PySem.W.Frag} {μ : List Addr} {H : Hp} {st : Sto}
theorem rl1 {d : D} {xs : List V} (h : RepL K μ H [d] xs) : ∃ x, xs = [x] ∧ Rep K μ H d x := by
  obtain ⟨v, r, rfl, h1, h2⟩ := h
  cases (show r = [] from h2)
  exact ⟨v, rfl, h1⟩
theorem rl2 {d e : D} {xs : List V} (h : RepL K μ H [d, e] xs) : ∃ x y, xs = [x, y] ∧ Rep K μ H d x ∧ Rep K μ H e y := by
  obtain ⟨v, r, rfl, h1, h2⟩ := h
  obtain ⟨y, rfl, h3⟩ := rl1 h2
  exact ⟨v, y, rfl, h1, h3⟩
theorem rl3 {d e f : D} {xs : List V} (h : RepL K μ H [d, e, f] xs) : ∃ x y z, xs = [x, y, z] ∧ Rep K μ H d x ∧ Rep K μ H e y ∧ Rep K μ H f z := by
  obtain ⟨v, r, rfl, h1, h2⟩ := h
  obtain ⟨y, z, rfl, h3, h4⟩ := rl2 h2
  exact ⟨v, y, z, rfl, h1, h3, h4⟩
/-- a row that is read: a list or a tuple -/
theorem row_of (S : StR K μ H st) {d : D} {x : V} {xs : List D} (r : Rep K μ H d x) (h : rowOf d st = some xs) : ∃ a vs, x = .ref a ∧ Paired (Rep K μ H) xs vs ∧ ((∃ l, d = .ref l ∧ H a = some (.lst vs)) ∨ (d = .tup xs ∧ ∃ its, H a = some (.frz (tupO its) (.tup vs)))) := by
  cases d with
  | tup ys =>
    cases (show some ys = some xs from h)
    obtain ⟨a, vs, its, e, ha, hv⟩ := r
    exact ⟨a, vs, e, RepL.iff.mp hv, .inr ⟨rfl, its, ha⟩⟩
  | ref l =>
    obtain ⟨a, ha, rfl⟩ := r
    simp only [rowOf] at h
    cases e : sget st l with
    | none => rw [e] at h; cases h
    | some o =>
      rw [e] at h
      cases o with
      | lst ys =>
        cases (show some ys = some xs from h)
        obtain ⟨vs, h1, h2⟩ := S.lst ha e
        exact ⟨a, vs, rfl, h2, .inl ⟨l, rfl, h1⟩⟩
      | _ => cases h
  | _ => cases h
end
def twos : Blt → Bool
  | .max | .min | .gcd | .lcm => true
  | _ => false
theorem blt2_no {b : Blt} (h : twos b = false) (d e : D) (st : Sto) : blt2 b d e st = .no := by
  cases d <;> try rfl
  cases e <;> try rfl
  cases b <;> first | rfl | cases h
theorem one_arg {b : Blt} {ds : List D} {st st' : Sto} {d : D} (hb : twos b = false) (h : bltA b ds st = .ok d st') : ∃ d0, ds = [d0] := by
  unfold bltA at h
  match ds, h with
  | [], h => cases hw : walks b <;> rw [hw] at h <;> cases h
  | [d0], _ => exact ⟨d0, rfl⟩
  | x :: y :: r, h =>
    cases hw : walks b with
    | true => rw [hw] at h; cases h
    | false =>
      rw [hw] at h
      have h : (match r with | [] => blt2 b x y st | _ :: _ => R.no) = .ok d st' := h
      cases r with
      | nil => rw [show (match ([] : List D) with | [] => blt2 b x y st | _ :: _ => R.no) = blt2 b x y st from rfl, blt2_no hb] at h; cases h
      | cons _ _ => cases h
def vBlt (K : PySem.W.Frag) (b : Blt) : List V → Hp → VK → Prop := fun xs H Q => ∃ μ ds st d st', StR K μ H st ∧ RepL K μ H ds xs ∧ bltA b ds st = .ok d st' ∧ Post K μ H d st' Q
section
variable {X : Cx}
theorem cr_len : CallR X (.builtin "len") (vBlt X.K .len) := by
  intro pins s σ H xs us Q I r ⟨μ, ds, st, d, st', S, rd, h, p⟩
  obtain ⟨d0, rfl⟩ := one_arg rfl h
  · obtain ⟨x, rfl, r1⟩ := rl1 rd
    have h : (match lenR d0 st with | some n => R.ok (D.int n) st | none => R.no) = .ok d st' := h
    cases e : lenR d0 st with
    | none => rw [e] at h; cases h
    | some n =>
      rw [e] at h
      cases h
      cases d0 with
      | tup ys =>
        cases (show some ys.length = some n from e)
        obtain ⟨a, vs, its, rfl, ha, hv⟩ := r1
        refine call_len pins s σ H _ us Q I r ⟨.ref a, _, rfl, .inr ⟨vs, .inl (.inr ⟨_, ha⟩), rfl⟩, ?_⟩
        rw [← (RepL.iff.mp hv).length]
        exact p.int S
      | str z =>
        cases (show x = .str z from r1)
        obtain ⟨hz, e⟩ := ifO (show (if small z.length = true then some z.length else none) = some n from e)
        cases e
        exact call_len pins s σ H _ us Q I r ⟨.str z, _, rfl, ⟨small_iff hz, rfl⟩, p.int S⟩
      | ref l =>
        obtain ⟨a, ha, rfl⟩ := r1
        simp only [lenR] at e
        cases e1 : sget st l with
        | none => rw [e1] at e; cases e
        | some o =>
          rw [e1] at e
          cases o with
          | lst ys =>
            cases (show some ys.length = some n from e)
            obtain ⟨vs, h1, hv⟩ := S.lst ha e1
            refine call_len pins s σ H _ us Q I r ⟨.ref a, _, rfl, .inl ⟨vs, .inl (.inl h1), rfl⟩, ?_⟩
            rw [← hv.length]
            exact p.int S
          | dct kvs =>
            cases (show some kvs.length = some n from e)
            obtain ⟨l', h1, h2⟩ := (show ∃ l, H a = some (.dK l) ∧ KVR X.K μ H kvs l from S.at_ ha e1)
            refine call_lenD pins s σ H _ us Q I r ⟨a, l', rfl, h1, ?_⟩
            rw [← h2.length]
            exact p.int S
          | _ => cases e
      | rol ns =>
        cases (show some ns.length = some n from e)
        obtain ⟨a, rfl, ha⟩ := r1
        refine call_len pins s σ H _ us Q I r ⟨.ref a, _, rfl, .inl ⟨ns.map V.int, ha.seq, rfl⟩, ?_⟩
        rw [List.length_map]
        exact p.int S
      | _ => cases e
theorem cr_tuple : CallR X (.type "tuple") (vBlt X.K .tuple) := by
  intro pins s σ H xs us Q I r ⟨μ, ds, st, d, st', S, rd, h, p⟩
  obtain ⟨d0, rfl⟩ := one_arg rfl h
  · obtain ⟨x, rfl, r1⟩ := rl1 rd
    have h : (match rowOf d0 st with | some xs => bltI .tuple xs st | none => .no) = .ok d st' := h
    cases e : rowOf d0 st with
    | none => rw [e] at h; cases h
    | some ys =>
      rw [e] at h
      obtain ⟨hz, h⟩ := ite_ok (show (if small ys.length = true then R.ok (D.tup ys) st else R.no) = .ok d st' from h)
      cases h
      obtain ⟨a, vs, rfl, hv, hc⟩ := row_of S r1 e
      obtain ⟨u, rfl, rx⟩ := vals1 r
      cases rx
      rcases hc with ⟨l, rfl, ha⟩ | ⟨rfl, its, ha⟩
      · obtain ⟨its, r', pl, hz'⟩ := I.list (.inl (.inl ha))
        have hlen := r'.length
        refine call_tuple_list pl.isList (fun h' kp => ?_) (by simp only [List.size_toArray] <;> omega)
        have I1 : Inv X pins σ H { s with heap := h' } := I.kept (t' := s.toks) kp
        exact tup_end (tk := s.toks) I1 S hv r' hz' p
      · obtain ⟨its', r', pl, hz'⟩ := I.tuple (.inl (.inr ⟨_, ha⟩))
        exact call_tuple_same pl ⟨.ref a, H, I, rfl, p.here S r1⟩
theorem cr_list : CallR X (.type "list") (vBlt X.K .list) := by
  intro pins s σ H xs us Q I r ⟨μ, ds, st, d, st', S, rd, h, p⟩
  obtain ⟨d0, rfl⟩ := one_arg rfl h
  · obtain ⟨x, rfl, r1⟩ := rl1 rd
    have h : (match rowOf d0 st with | some xs => bltI .list xs st | none => .no) = .ok d st' := h
    cases e : rowOf d0 st with
    | none => rw [e] at h; cases h
    | some ys =>
      rw [e] at h
      obtain ⟨hz, h⟩ := ite_ok (show (if small ys.length = true then new (.lst ys) st else .no) = .ok d st' from h)
      obtain ⟨rfl, rfl⟩ := new_ok h
      obtain ⟨a, vs, rfl, hv, hc⟩ := row_of S r1 e
      refine call_list_of pins s σ H _ us Q I r ⟨a, vs, rfl, ?_, p.lay S (fun z => z) (obj_lst S hv)⟩
      rcases hc with ⟨l, rfl, ha⟩ | ⟨rfl, its, ha⟩
      · exact .inl (.inl (.inl ha))
      · exact .inr (.inl (.inr ⟨_, ha⟩))
theorem cr_abs : CallR X (.builtin "abs") (vBlt X.K .abs) := by
  intro pins s σ H xs us Q I r ⟨μ, ds, st, d, st', S, rd, h, p⟩
  obtain ⟨d0, rfl⟩ := one_arg rfl h
  · obtain ⟨x, rfl, r1⟩ := rl1 rd
    cases d0 with
    | int i =>
      cases (show x = .int i from r1)
      cases (show R.ok (D.int (if i < 0 then -i else i)) st = .ok d st' from h)
      exact call_abs pins s σ H _ us Q I r ⟨i, rfl, p.int S⟩
    | _ => cases h
theorem cr_ord : CallR X (.builtin "ord") (vBlt X.K .ord) := by
  intro pins s σ H xs us Q I r ⟨μ, ds, st, d, st', S, rd, h, p⟩
  obtain ⟨d0, rfl⟩ := one_arg rfl h
  · obtain ⟨x, rfl, r1⟩ := rl1 rd
    cases d0 with
    | str z =>
      cases (show x = .str z from r1)
      have h : (match z.cps.toList with | [c] => R.ok (D.int c) st | _ => .no) = .ok d st' := h
      obtain ⟨⟨l⟩⟩ := z
      match l, h with
      | [], h => cases h
      | [c], h =>
        cases h
        exact call_ord pins s σ H _ us Q I r ⟨_, rfl, rfl, p.int S⟩
      | _ :: _ :: _, h => cases h
    | _ => cases h
theorem cr_str : CallR X (.type "str") (vBlt X.K .str) := by
  intro pins s σ H xs us Q I r ⟨μ, ds, st, d, st', S, rd, h, p⟩
  obtain ⟨d0, rfl⟩ := one_arg rfl h
  · obtain ⟨x, rfl, r1⟩ := rl1 rd
    cases d0 with
    | int i =>
      cases (show x = .int i from r1)
      obtain ⟨hb, h⟩ := ite_ok (show (if Nat.blt i.natAbs.log2 1920 = true then R.ok (D.str (Str.ofString (toString i))) st else .no) = .ok d st' from h)
      cases h
      exact call_str_int pins s σ H _ us Q I r ⟨i, rfl, Nat.blt_eq.mp hb, p.str S⟩
    | _ => cases h
end
end Ev
end

section
set_option Elab.async false
set_option linter.all false
set_option maxRecDepth 100000
set_option maxHeartbeats 2000000
/-! Snd9: int, isinstance, methods, replacing. -/
namespace Ev
open PySem PySem.Spec L2
theorem digs_ok : ∀ (l : List Nat) (n m : Nat), digs l n = some m → NumText.AllDigits l ∧ l.foldl (fun acc c => acc * 10 + (c - 48)) n = m
  | [], n, m, h => by
    cases h
    exact ⟨fun c hc => (by simp at hc), rfl⟩
  | c :: r, n, m, h => by
    unfold digs at h
    obtain ⟨hc, h⟩ := ifO (show (if (Nat.ble 48 c && Nat.ble c 57) = true then digs r (n * 10 + (c - 48)) else none) = some m from h)
    obtain ⟨h1, h2⟩ := b_and hc
    obtain ⟨i1, i2⟩ := digs_ok r _ _ h
    refine ⟨fun d hd => ?_, i2⟩
    rcases List.mem_cons.mp hd with rfl | hd
    · exact ⟨Nat.ble_eq.mp h1, Nat.ble_eq.mp h2⟩
    · exact i1 d hd
theorem intOf_ok {z : Str} {n : Int} (h : intOf z.cps.toList = some n) (hz : z.length ≤ 640) : PySem.intText? z = some n := by
  cases e : z.cps.toList with
  | nil => rw [e] at h; cases h
  | cons c r =>
    rw [e] at h
    have h : (if (c == 45) = true then negOf r else posOf (c :: r)) = some n := h
    cases hc : c == 45 with
    | true =>
      rw [hc, if_pos rfl] at h
      have hc := eq_of_beq hc
      subst hc
      cases r with
      | nil => cases h
      | cons a r =>
        have h : (match digs (a :: r) 0 with | some n => some (-(n : Int)) | none => none) = some n := h
        cases e2 : digs (a :: r) 0 with
        | none => rw [e2] at h; cases h
        | some m =>
          rw [e2] at h
          cases h
          obtain ⟨h1, h2⟩ := digs_ok _ _ _ e2
          rw [PySem.intText_neg e h1 (by simp) (by omega), ← h2]
          rfl
    | false =>
      rw [hc, if_neg (by decide)] at h
      have h : (match digs (c :: r) 0 with | some n => some (n : Int) | none => none) = some n := h
      cases e2 : digs (c :: r) 0 with
      | none => rw [e2] at h; cases h
      | some m =>
        rw [e2] at h
        cases h
        obtain ⟨h1, h2⟩ := digs_ok _ _ _ e2
        rw [PySem.intText_digits (by rw [e]; exact h1) (by rw [e]; simp) (by omega), e, ← h2]
        rfl
section
variable {X : Cx}
theorem cr_int : CallR X (.type "int") (vBlt X.K .int) := by
  intro pins s σ H xs us Q I r ⟨μ, ds, st, d, st', S, rd, h, p⟩
  obtain ⟨d0, rfl⟩ := one_arg rfl h
  obtain ⟨x, rfl, r1⟩ := rl1 rd
  cases d0 with
  | int i =>
    cases (show x = .int i from r1)
    cases (show R.ok (D.int i) st = .ok d st' from h)
    exact call_int1 pins s σ H _ us Q I r (.inl ⟨i, rfl, p.int S⟩)
  | bl b =>
    cases (show x = .bl b from r1)
    cases (show R.ok (D.int (if b then 1 else 0)) st = .ok d st' from h)
    exact call_int1 pins s σ H _ us Q I r (.inr ⟨b, rfl, p.int S⟩)
  | str z =>
    cases (show x = .str z from r1)
    obtain ⟨hz, h⟩ := ite_ok (show (if Nat.ble z.length 640 = true then (match intOf z.cps.toList with | some n => R.ok (D.int n) st | none => R.no) else R.no) = .ok d st' from h)
    have hz := Nat.ble_eq.mp hz
    cases e : intOf z.cps.toList with
    | none => rw [e] at h; cases h
    | some n =>
      rw [e] at h
      cases h
      exact call_int_str pins s σ H _ us Q I r ⟨z, n, rfl, intOf_ok e hz, hz, p.int S⟩
  | _ => cases h
theorem two_args {b : Blt} {ds : List D} {st st' : Sto} {d : D} (hw : walks b = false) (h1 : blt1 b (ds.headD .non) st = .no) (hm : b ≠ .max) (hm' : b ≠ .min) (h : bltA b ds st = .ok d st') : ∃ d0 d1, ds = [d0, d1] ∧ blt2 b d0 d1 st = .ok d st' := by
  unfold bltA at h
  rw [hw] at h
  match ds, h, h1 with
  | [], h, _ => cases h
  | [d0], h, h1 =>
    have h : bltV b [d0] st = .ok d st' := by cases b <;> first | exact h | exact absurd rfl hm | exact absurd rfl hm'
    have h : blt1 b d0 st = .ok d st' := h
    rw [show blt1 b d0 st = .no from h1] at h
    cases h
  | [d0, d1], h, _ => exact ⟨d0, d1, rfl, h⟩
  | _ :: _ :: _ :: _, h, _ => cases h
/-! ### isinstance -/
def tyN : Ty → String
  | .int => "int"
  | .str => "str"
  | .tuple => "tuple"
  | .bool => "bool"
  | .list => "list"
def kindT (d : D) (st : Sto) : Option String := match d with
  | .non => some "NoneType"
  | .bl _ => some "bool"
  | .int _ => some "int"
  | .str _ => some "str"
  | .tup _ => some "tuple"
  | .ref l => (match sget st l with
    | some (.lst _) => some "list"
    | some (.dct _) => some "dict"
    | _ => none)
  | _ => none
def tyB (a : String) (t : Ty) : Bool := match t with
  | .int => a == "int" || a == "bool"
  | .str => a == "str"
  | .tuple => a == "tuple"
  | .bool => a == "bool"
  | .list => a == "list"
theorem isTy_kind {t : Ty} {d : D} {st : Sto} {b : Bool} (h : isTy t d st = some b) : ∃ a, kindT d st = some a ∧ a ∈ ["NoneType", "bool", "int", "str", "tuple", "list", "dict"] ∧ b = tyB a t := by
  cases d with
  | non => cases h; exact ⟨_, rfl, by simp, by cases t <;> rfl⟩
  | bl _ => cases h; exact ⟨_, rfl, by simp, by cases t <;> rfl⟩
  | int _ => cases h; exact ⟨_, rfl, by simp, by cases t <;> rfl⟩
  | str _ => cases h; exact ⟨_, rfl, by simp, by cases t <;> rfl⟩
  | tup _ => cases h; exact ⟨_, rfl, by simp, by cases t <;> rfl⟩
  | ref l =>
    simp only [isTy] at h
    simp only [kindT]
    cases e : sget st l with
    | none => rw [e] at h; cases h
    | some o =>
      rw [e] at h
      cases o with
      | lst _ => cases h; exact ⟨_, rfl, by simp, by cases t <;> rfl⟩
      | dct _ => cases h; exact ⟨_, rfl, by simp, by cases t <;> rfl⟩
      | _ => cases h
  | _ => cases h
theorem kit_all {K : PySem.W.Frag} {a : String} (ha : a ∈ ["NoneType", "bool", "int", "str", "tuple", "list", "dict"]) (t : Ty) : PySem.W.kitOne K (.type a) (.type (tyN t)) = some (tyB a t) := by
  simp only [List.mem_cons, List.not_mem_nil, or_false] at ha
  rcases ha with rfl | rfl | rfl | rfl | rfl | rfl | rfl <;> cases t <;> exact kit_ty (by decide +kernel)
theorem rep_ty {K : PySem.W.Frag} {μ : List Addr} {H : Hp} {st : Sto} (S : StR K μ H st) {d : D} {x : V} (r : Rep K μ H d x) {a : String} (h : kindT d st = some a) : TyX K H x (.type a) := by
  cases d with
  | non => cases h; cases (show x = .non from r); exact .base .non
  | bl b => cases h; cases (show x = .bl b from r); exact .base (.bl b)
  | int b => cases h; cases (show x = .int b from r); exact .base (.int b)
  | str b => cases h; cases (show x = .str b from r); exact .base (.str b)
  | tup b =>
    cases h
    obtain ⟨a, vs, its, rfl, ha, hv⟩ := r
    exact .fTuple ha
  | ref l =>
    obtain ⟨a, ha, rfl⟩ := r
    simp only [kindT] at h
    cases e : sget st l with
    | none => rw [e] at h; cases h
    | some o =>
      rw [e] at h
      cases o with
      | lst _ =>
        cases h
        obtain ⟨vs, h1, _⟩ := S.lst ha e
        exact .base (.lst h1)
      | dct kvs =>
        cases h
        obtain ⟨l', h1, h2⟩ := (show ∃ l, H a = some (.dK l) ∧ KVR K μ H kvs l from S.at_ ha e)
        exact .base (.dK h1)
      | _ => cases h
  | _ => cases h
end
/-! ### find -/
theorem findC_spec (c : Nat) : ∀ (l : List Nat) (k : Nat), (findC c l k = -1 ∧ ∀ i : Nat, l[i]? ≠ some c) ∨ ∃ i : Nat, findC c l k = ((k + i : Nat) : Int) ∧ l[i]? = some c ∧ ∀ j : Nat, j < i → l[j]? ≠ some c
  | [], k => .inl ⟨rfl, fun i => by simp⟩
  | x :: r, k => by
    unfold findC
    by_cases hx : x = c
    · subst hx
      rw [if_pos (by simp)]
      exact .inr ⟨0, by simp, by simp, fun j hj => by omega⟩
    · rw [if_neg (by simp [hx])]
      rcases findC_spec c r (k + 1) with ⟨h1, h2⟩ | ⟨i, h1, h2, h3⟩
      · refine .inl ⟨h1, fun i => ?_⟩
        cases i with
        | zero => simp [hx]
        | succ i => simpa using h2 i
      · refine .inr ⟨i + 1, by rw [h1]; congr 1; omega, by simpa using h2, fun j hj => ?_⟩
        cases j with
        | zero => simp [hx]
        | succ j => simpa using h3 j (by omega)
theorem at_one {x : Str} {c hi i : Nat} (hh : hi ≤ x.length) : StrLaws.At x ⟨#[c]⟩ hi i ↔ (i < hi ∧ x.cps.toList[i]? = some c) := by
  constructor
  · intro h
    have h1 : i + 1 ≤ hi := h.1
    exact ⟨by omega, (StrLaws.subAt_one x c i).mp ⟨by show i + 1 ≤ x.length; omega, h.2⟩⟩
  · intro h
    have h2 := (StrLaws.subAt_one x c i).mpr h.2
    exact ⟨by show i + 1 ≤ hi; omega, h2.2⟩
theorem occ_find (x : Str) (c lo hi : Nat) (hh : hi ≤ x.length) : (match Builtin.Str.occurrences x ⟨#[c]⟩ lo hi 1 with | k :: _ => (k : Int) | [] => -1) = findS x.cps.toList c lo hi := by
  have get : ∀ i, ((x.cps.toList.take hi).drop lo)[i]? = some c ↔ (lo + i < hi ∧ x.cps.toList[lo + i]? = some c) := fun i => by
    rw [List.getElem?_drop, List.getElem?_take]
    split
    · rename_i h; exact ⟨fun q => ⟨h, q⟩, fun q => q.2⟩
    · rename_i h; exact ⟨fun q => (nomatch q), fun q => absurd q.1 h⟩
  unfold findS
  rw [StrLaws.occ_eq]
  rcases StrLaws.occ_first x ⟨#[c]⟩ hi 1 (Nat.le_refl 1) (List.range' lo (hi + 1 - lo)) lo (fun i hi => by have := List.mem_range'_1.mp hi; omega) with ⟨h0, hn⟩ | ⟨pre, a, post, e, h0, ha, hn⟩
  · rw [h0]
    rcases findC_spec c ((x.cps.toList.take hi).drop lo) lo with ⟨h1, _⟩ | ⟨i, h1, h2, _⟩
    · exact h1.symm
    · obtain ⟨h3, h4⟩ := (get i).mp h2
      exact absurd ((at_one hh).mpr ⟨h3, h4⟩) (hn (lo + i) (by rw [List.mem_range'_1]; omega))
  · have hs := StrLaws.range'_split_from e
    generalize (forIn (List.range' lo (hi + 1 - lo)) ((#[] : Array Nat), lo) (StrLaws.occBody x ⟨#[c]⟩ hi 1)).run.fst = arr at h0
    have h1 : arr.toList[0]? = some a := by simpa using h0
    obtain ⟨a1, a2⟩ := (at_one hh).mp ha
    cases hL : arr.toList with
    | nil => rw [hL] at h1; cases h1
    | cons b t =>
      rw [hL] at h1
      simp at h1
      subst h1
      show (b : Int) = _
      rcases findC_spec c ((x.cps.toList.take hi).drop lo) lo with ⟨_, h2⟩ | ⟨i, h1, h2, h3⟩
      · exact absurd ((get (b - lo)).mpr ⟨by omega, by rw [show lo + (b - lo) = b by omega]; exact a2⟩) (h2 _)
      · rw [h1]
        obtain ⟨g1, g2⟩ := (get i).mp h2
        have l1 : ¬ lo + i < b := fun q => hn (lo + i) (hs.2 _ (by omega) q) ((at_one hh).mpr ⟨g1, g2⟩)
        have l2 : ¬ b < lo + i := fun q => h3 (b - lo) (by omega) ((get (b - lo)).mpr ⟨by omega, by rw [show lo + (b - lo) = b by omega]; exact a2⟩)
        congr 1
        omega
theorem clip_hi (n : Nat) (j : Int) : toIndexW n j = clip n j ∧ clip n j ≤ n := by
  unfold toIndexW clip
  cases j with
  | ofNat k =>
    have h0 : (0 : Int) ≤ Int.ofNat k := Int.natCast_nonneg k
    rw [if_neg (by omega)]
    show min (max 0 (Int.ofNat k)).toNat n = (if Nat.blt k n = true then k else n) ∧ (if Nat.blt k n = true then k else n) ≤ n
    have e : (max 0 (Int.ofNat k)).toNat = k := by
      rw [Int.max_eq_right h0]
      rfl
    rw [e]
    by_cases hk : k < n
    · rw [if_pos (Nat.blt_eq.mpr hk)]; omega
    · rw [if_neg (fun q => hk (Nat.blt_eq.mp q))]; omega
  | negSucc k =>
    rw [if_pos (Int.negSucc_lt_zero k)]
    show min (max 0 (Int.negSucc k + (n : Int))).toNat n = n - (k + 1) ∧ n - (k + 1) ≤ n
    omega
theorem findS_lo (s : List Nat) (c n : Nat) (i : Int) (hn : n = s.length) (hi : Nat) (hh : hi ≤ n) : findS s c (fromIndex n i) hi = findS s c (clip n i) hi := by
  unfold fromIndex clip
  cases i with
  | ofNat k =>
    have h0 : (0 : Int) ≤ Int.ofNat k := Int.natCast_nonneg k
    rw [if_neg (by omega)]
    have e : (max 0 (Int.ofNat k)).toNat = k := by
      rw [Int.max_eq_right h0]
      rfl
    rw [e]
    show findS s c k hi = findS s c (if Nat.blt k n = true then k else n) hi
    by_cases hk : k < n
    · rw [if_pos (Nat.blt_eq.mpr hk)]
    · rw [if_neg (fun q => hk (Nat.blt_eq.mp q))]
      unfold findS
      have e1 : (s.take hi).drop k = [] := by rw [List.drop_eq_nil_iff, List.length_take]; omega
      have e2 : (s.take hi).drop n = [] := by rw [List.drop_eq_nil_iff, List.length_take]; omega
      rw [e1, e2]
      rfl
  | negSucc k =>
    rw [if_pos (Int.negSucc_lt_zero k)]
    show findS s c (max 0 (Int.negSucc k + (n : Int))).toNat hi = findS s c (n - (k + 1)) hi
    congr 1
    omega
end Ev
end

section
set_option Elab.async false
set_option linter.all false
set_option maxRecDepth 100000
set_option maxHeartbeats 2000000
/-! Snd10: methods. -/
namespace Ev
open PySem PySem.Spec L2
def kdT : Kd → String
  | .str => "str"
  | .lst => "list"
  | .tup => "tuple"
  | .dct => "dict"
def mthN : Mth → String
  | .append => "append" | .extend => "extend" | .pop => "pop" | .index => "index" | .count => "count" | .items => "items" | .values => "values" | .keys => "keys" | .get => "get" | .setdefault => "setdefault"
  | .update => "update" | .join => "join" | .split => "split" | .replace => "replace" | .startswith => "startswith" | .find => "find" | .isascii => "isascii" | .isdigit => "isdigit" | .remove => "remove" | .insert => "insert"
def vMth (K : PySem.W.Frag) (k : Kd) (m : Mth) : V → List V → Hp → VK → Prop := fun x xs H Q => ∃ μ dx ds st d st', StR K μ H st ∧ Rep K μ H dx x ∧ RepL K μ H ds xs ∧ mthV k m dx ds st = .ok d st' ∧ Post K μ H d st' Q
section
variable {X : Cx} {pins : List (Addr × Obj)} {σ : L2.St} {H : Hp} {s : Shared} {μ : List Addr} {st : Sto}
theorem kd_is (I : Inv X pins σ H s) (S : StR X.K μ H st) {d : D} {x : V} {v : Value} (r : Rep X.K μ H d x) (rv : RelV x v) {k : Kd} (h : kdOf d st = some k) :
    s.TypeIs v (kdT k) ∧ ∀ a, v = .ref a → ∃ ob, s.heap.get? a = some ob ∧ ob.dict = none := by
  cases d with
  | str z =>
    cases h
    cases (show x = .str z from r)
    exact tyV_is I rv (show tyV X.K "str" (.str z) H from rfl)
  | tup ds =>
    cases h
    obtain ⟨a, vs, its, rfl, ha, _⟩ := r
    cases (show v = Value.ref a from rv)
    obtain ⟨e, _⟩ := I.hok a _ ha
    refine ⟨⟨_, e, rfl⟩, fun b eb => ?_⟩
    cases eb
    exact ⟨_, e, rfl⟩
  | ref l =>
    obtain ⟨a, ha, rfl⟩ := r
    simp only [kdOf] at h
    cases e : sget st l with
    | none => rw [e] at h; cases h
    | some o =>
      rw [e] at h
      cases o with
      | lst xs =>
        cases h
        obtain ⟨vs, h1, _⟩ := S.lst ha e
        exact tyV_is I rv (show tyV X.K "list" (.ref a) H from .inl ⟨rfl, vs, .inl (.inl h1)⟩)
      | dct kvs =>
        cases h
        obtain ⟨l', h1, _⟩ := (show ∃ l, H a = some (.dK l) ∧ KVR X.K μ H kvs l from S.at_ ha e)
        exact tyV_is I rv (show tyV X.K "dict" (.ref a) H from .inr (.inr (.inl ⟨rfl, .inl ⟨l', h1⟩⟩)))
      | _ => cases h
  | _ => cases h
end
/-- the rule for a kind's method -/
def MthR (X : Cx) (k : Kd) (m : Mth) : Prop := ∃ id, PlainAttrs (kdT k) ∧ Slot (kdT k) (mthN m) id ∧ typeOf (.builtin id) = pure (.type "method_descriptor") ∧ MtR X id (vMth X.K k m)
section
variable {X : Cx}
theorem MtR.imp {id : String} {r r' : V → List V → Hp → VK → Prop} (h : MtM X id r) (k : ∀ x xs H Q, r' x xs H Q → r x xs H Q) : MtR X id r' := fun pins s σ H x xs v us Q I rx rs q => h pins s σ H x xs v us Q I rx rs (k _ _ _ _ q)
theorem mthL_lst {K : PySem.W.Frag} {μ : List Addr} {H : Hp} {st st' : Sto} (S : StR K μ H st) {m : Mth} {dx : D} {x : V} {ds : List D} {d : D} (r : Rep K μ H dx x) (h : mthV .lst m dx ds st = .ok d st') : ∃ l a xs vs, dx = .ref l ∧ x = .ref a ∧ μ[l]? = some a ∧ sget st l = some (.lst xs) ∧ H a = some (.lst vs) ∧ Paired (Rep K μ H) xs vs := by
  cases dx with
  | ref l =>
    obtain ⟨a, ha, rfl⟩ := r
    have h : mthL l m ds st = .ok d st' := h
    unfold mthL at h
    cases e : sget st l with
    | none => rw [e] at h; cases h
    | some o =>
      rw [e] at h
      cases o with
      | lst xs =>
        obtain ⟨vs, h1, h2⟩ := S.lst ha e
        exact ⟨l, a, xs, vs, rfl, rfl, ha, e, h1, h2⟩
      | _ => cases h
  | _ => cases h
theorem Post.wr {K : PySem.W.Frag} {μ : List Addr} {H : Hp} {st : Sto} {Q : VK} (S : StR K μ H st) {l : Nat} {a : Addr} {vs ws : List V} {ys : List D} {d : D} {v : V} (ha : μ[l]? = some a) (h1 : H a = some (.lst vs)) (p : Post K μ H d (sput st l (.lst ys)) Q)
    (rv : Rep K μ H d v) (rw_ : Paired (Rep K μ H) ys ws) : Q v (upd H a (.lst ws)) := by
  have L := le_put ha h1 (fun z => z) (.lst ws)
  refine p μ v _ L (rv.mono L) ?_
  rw [sput_eq]
  exact S.put ha h1 (fun z => z) ⟨_, upd_same, RepL.iff.mpr (Pr.imp rw_ fun _ _ r => r.mono L)⟩
theorem mt_l_append : MtR X "list.append" (vMth X.K .lst .append) := MtR.imp mt_append fun x xs H Q ⟨μ, dx, ds, st, d, st', S, r1, rd, h, p⟩ => by
  obtain ⟨l, a, ys, vs, rfl, rfl, ha, e, h1, hv⟩ := mthL_lst S r1 h
  have h : mthL l .append ds st = .ok d st' := h
  unfold mthL at h
  rw [e] at h
  match ds, rd, h with
  | [], _, h => cases h
  | [d0], rd, h =>
    obtain ⟨y, rfl, r2⟩ := rl1 rd
    obtain ⟨hz, h⟩ := ite_ok (show (if Nat.blt ys.length line = true then R.ok D.non (sput st l (.lst (ys ++ [d0]))) else R.no) = .ok d st' from h)
    cases h
    refine ⟨a, vs, y, rfl, rfl, h1, ?_, p.wr S ha h1 rfl (Pr.app hv (.cons r2 .nil))⟩
    rw [← hv.length, sizeLine_eq]
    exact Nat.blt_eq.mp hz
  | _ :: _ :: _, _, h => cases h
theorem mt_l_extend : MtR X "list.extend" (vMth X.K .lst .extend) := MtR.imp mt_extend fun x xs H Q ⟨μ, dx, ds, st, d, st', S, r1, rd, h, p⟩ => by
  obtain ⟨l, a, ys, vs, rfl, rfl, ha, e, h1, hv⟩ := mthL_lst S r1 h
  have h : mthL l .extend ds st = .ok d st' := h
  unfold mthL at h
  rw [e] at h
  match ds, rd, h with
  | [], _, h => cases h
  | [d0], rd, h =>
    obtain ⟨y, rfl, r2⟩ := rl1 rd
    cases d0 with
    | ref b =>
      obtain ⟨a2, ha2, rfl⟩ := r2
      have h : (match sget st b with | some (.lst zs) => if small (ys.length + zs.length) = true then R.ok D.non (sput st l (.lst (ys ++ zs))) else R.no | _ => R.no) = .ok d st' := h
      cases e2 : sget st b with
      | none => rw [e2] at h; cases h
      | some o =>
        rw [e2] at h
        cases o with
        | lst zs =>
          obtain ⟨hz, h⟩ := ite_ok (show (if small (ys.length + zs.length) = true then R.ok D.non (sput st l (.lst (ys ++ zs))) else R.no) = .ok d st' from h)
          cases h
          obtain ⟨ws, h2, hw⟩ := S.lst ha2 e2
          refine ⟨a, a2, vs, ws, rfl, rfl, h1, h2, ?_, p.wr S ha h1 rfl (Pr.app hv hw)⟩
          rw [← hv.length, ← hw.length]
          exact small_iff hz
        | _ => cases h
    | _ => cases h
  | _ :: _ :: _, _, h => cases h
theorem dropLast_take {α : Type} (xs : List α) : xs.dropLast = xs.take (xs.length - 1) := List.dropLast_eq_take
theorem place_seq {n : Nat} {i : Int} {k : Nat} (h : place n i = some k) (hn : n ≤ sizeLine) : seqIndex? i n = some k ∧ -(2 ^ 63) ≤ i ∧ i < 2 ^ 63 ∧ k < n := by
  have hs := sizeLine_eq
  unfold place at h
  cases i with
  | ofNat j =>
    obtain ⟨hj, h⟩ := ifO (show (if Nat.blt j n = true then some j else none) = some k from h)
    cases h
    have hj := Nat.blt_eq.mp hj
    have h0 : (0 : Int) ≤ Int.ofNat k := Int.natCast_nonneg k
    have h1 : Int.ofNat k < (n : Int) := Int.ofNat_lt.mpr hj
    refine ⟨?_, by omega, by omega, hj⟩
    rw [seqIndex_of h0 h1]
    rfl
  | negSucc j =>
    obtain ⟨hj, h⟩ := ifO (show (if Nat.blt j n = true then some (n - (j + 1)) else none) = some k from h)
    cases h
    have hj := Nat.blt_eq.mp hj
    refine ⟨?_, by omega, by omega, by omega⟩
    have e : (Int.negSucc j + (n : Int)).toNat = n - (j + 1) := by omega
    rw [seqIndex_neg (Int.negSucc_lt_zero j) (by omega), e]
theorem mt_l_pop : MtR X "list.pop" (vMth X.K .lst .pop) := MtR.imp (MtR.or mt_pop mt_popAt) fun x xs H Q ⟨μ, dx, ds, st, d, st', S, r1, rd, h, p⟩ => by
  obtain ⟨l, a, ys, vs, rfl, rfl, ha, e, h1, hv⟩ := mthL_lst S r1 h
  have h : mthL l .pop ds st = .ok d st' := h
  unfold mthL at h
  rw [e] at h
  match ds, rd, h with
  | [], rd, h =>
    cases (show xs = [] from rd)
    have h : (match nth ys (ys.length - 1) with | some d => R.ok d (sput st l (.lst (ys.take (ys.length - 1)))) | none => R.no) = .ok d st' := h
    cases e2 : nth ys (ys.length - 1) with
    | none => rw [e2] at h; cases h
    | some d1 =>
      rw [e2] at h
      cases h
      rw [nth_eq] at e2
      obtain ⟨y, h3, h4⟩ := Pr.get hv e2
      refine .inl ⟨a, vs, y, rfl, rfl, h1, by rw [← hv.length]; exact h3, ?_⟩
      rw [dropLast_take, ← hv.length]
      exact p.wr S ha h1 h4 (Pr.take _ hv)
  | [d0], rd, h =>
    obtain ⟨y, rfl, r2⟩ := rl1 rd
    cases d0 with
    | int i =>
      cases (show y = .int i from r2)
      obtain ⟨hl, h⟩ := ite_ok (show (if small ys.length = true then (match place ys.length i with | some k => (match nth ys k with | some d => R.ok d (sput st l (.lst (delIx ys k))) | none => R.no) | none => R.no) else R.no) = .ok d st' from h)
      have h : (match place ys.length i with | some k => (match nth ys k with | some d => R.ok d (sput st l (.lst (delIx ys k))) | none => R.no) | none => R.no) = .ok d st' := h
      cases e3 : place ys.length i with
      | none => rw [e3] at h; cases h
      | some k =>
        rw [e3] at h
        have h : (match nth ys k with | some d => R.ok d (sput st l (.lst (delIx ys k))) | none => R.no) = .ok d st' := h
        cases e2 : nth ys k with
        | none => rw [e2] at h; cases h
        | some d1 =>
          rw [e2] at h
          cases h
          rw [nth_eq] at e2
          obtain ⟨y, h3, h4⟩ := Pr.get hv e2
          obtain ⟨g1, g2, g3, g4⟩ := place_seq e3 (small_iff hl)
          refine .inr ⟨a, vs, i, k, y, rfl, rfl, h1, g2, g3, by rw [← hv.length]; exact g1, h3, p.wr S ha h1 h4 ?_⟩
          rw [delIx_eq]
          exact Pr.eraseIdx k hv
    | _ => cases h
  | _ :: _ :: _, _, h => cases h
/-! ### texts -/
theorem joinS_ok {K : PySem.W.Frag} {μ : List Addr} {H : Hp} {sep : Str} : ∀ {xs : List D} {vs : List V} {l : List Nat}, Paired (Rep K μ H) xs vs → joinS (chars sep) xs = some l → ∃ ys : List Str, vs = ys.map V.str ∧ (Txt.join sep ys).cps.toList = l ∧
    (ys.map (·.length)).sum + (ys.length - 1) * sep.length = l.length := by
  intro xs vs l h hj
  have e0 : ∀ ys, Txt.join sep ys = Str.join sep ys := fun ys => StrLaws.glued_eq_join sep ys
  simp only [e0]
  induction xs generalizing vs l with
  | nil =>
    cases h
    cases hj
    exact ⟨[], rfl, rfl, by simp⟩
  | cons x xs ih =>
    cases h with
    | @cons _ v _ vs' r t =>
      cases x with
      | str z =>
        cases (show v = .str z from r)
        cases xs with
        | nil =>
          cases t
          cases (show some z.cps.toList = some l from hj)
          refine ⟨[z], rfl, rfl, ?_⟩
          simp [Str.length]
        | cons y ys =>
          have hj : (match joinS (chars sep) (y :: ys) with | some t => some (z.cps.toList ++ chars sep ++ t) | none => none) = some l := hj
          cases e : joinS (chars sep) (y :: ys) with
          | none => rw [e] at hj; cases hj
          | some t' =>
            rw [e] at hj
            cases hj
            obtain ⟨zs, h1, h2, h3⟩ := ih t e
            cases zs with
            | nil => rw [h1] at t; cases t
            | cons w ws =>
              refine ⟨z :: w :: ws, by rw [h1]; rfl, ?_, ?_⟩
              · show (z ++ sep ++ Str.join sep (w :: ws)).cps.toList = _
                rw [← h2]
                show (z.cps ++ sep.cps ++ (Str.join sep (w :: ws)).cps).toList = _
                simp [chars]
              · rw [List.length_append, List.length_append, ← h3]
                have e1 : z.cps.toList.length = z.length := Array.length_toList
                have e2 : (chars sep).length = sep.length := Array.length_toList
                rw [e1, e2]
                simp only [List.map_cons, List.sum_cons, List.length_cons]
                have : (ws.length + 1 + 1 - 1) * sep.length = (ws.length + 1 - 1) * sep.length + sep.length := by
                  rw [show ws.length + 1 + 1 - 1 = (ws.length + 1 - 1) + 1 by omega, Nat.succ_mul]
                omega
      | _ => cases hj
theorem mth_str {K : PySem.W.Frag} {μ : List Addr} {H : Hp} {st st' : Sto} {m : Mth} {dx : D} {x : V} {ds : List D} {d : D} (r : Rep K μ H dx x) (h : mthV .str m dx ds st = .ok d st') : ∃ z, dx = .str z ∧ x = .str z ∧ mthS z m ds st = .ok d st' := by
  cases dx with
  | str z => exact ⟨z, rfl, r, h⟩
  | _ => cases h
theorem mt_s_join : MtR X "str.join" (vMth X.K .str .join) := MtR.imp mt_join fun x xs H Q ⟨μ, dx, ds, st, d, st', S, r1, rd, h, p⟩ => by
  obtain ⟨z, rfl, rfl, h⟩ := mth_str r1 h
  match ds, rd, h with
  | [], _, h => cases h
  | [d0], rd, h =>
    obtain ⟨y, rfl, r2⟩ := rl1 rd
    have h : (match rowOf d0 st with | some xs => (match joinS (chars z) xs with | some l => if small (l.length + z.length) = true then R.ok (D.str (ofChars l)) st else R.no | none => R.no) | none => R.no) = .ok d st' := h
    cases e : rowOf d0 st with
    | none => rw [e] at h; cases h
    | some ys =>
      rw [e] at h
      have h : (match joinS (chars z) ys with | some l => if small (l.length + z.length) = true then R.ok (D.str (ofChars l)) st else R.no | none => R.no) = .ok d st' := h
      cases e2 : joinS (chars z) ys with
      | none => rw [e2] at h; cases h
      | some l =>
        rw [e2] at h
        obtain ⟨hz, h⟩ := ite_ok (show (if small (l.length + z.length) = true then R.ok (D.str (ofChars l)) st else R.no) = .ok d st' from h)
        cases h
        obtain ⟨a, vs, rfl, hv, hc⟩ := row_of S r2 e
        obtain ⟨ws, g1, g2, g3⟩ := joinS_ok hv e2
        subst g1
        have hs := small_iff hz
        have hs2 := sizeLine_eq
        refine ⟨z, a, ws, rfl, rfl, ?_, ?_, ?_⟩
        · rcases hc with ⟨l, rfl, ha⟩ | ⟨rfl, its, ha⟩
          · exact .inl (.inl (.inl ha))
          · exact .inr (.inl (.inr ⟨_, ha⟩))
        · cases ws with
          | nil => simp
          | cons w ws =>
            have : (w :: ws).length * z.length = ((w :: ws).length - 1) * z.length + z.length := by
              rw [List.length_cons, Nat.add_sub_cancel, Nat.succ_mul]
            omega
        · have e3 : Txt.join z ws = ofChars l := by
            rw [← g2]
            rfl
          rw [e3]
          exact p.str S
  | [_, _], _, h => cases (show R.no = R.ok d st' from h)
  | [_, _, _], _, h => cases (show R.no = R.ok d st' from h)
  | _ :: _ :: _ :: _ :: _, _, h => cases h
theorem sign1_ok {d : D} {c : Nat} (h : sign1 d = some c) : d = .str ⟨#[c]⟩ := by
  cases d with
  | str y =>
    obtain ⟨⟨l⟩⟩ := y
    match l, h with
    | [], h => cases h
    | [a], h => cases h; rfl
    | _ :: _ :: _, h => cases h
  | _ => cases h
theorem mt_s_find : MtR X "str.find" (vMth X.K .str .find) := by
  intro pins s σ H x xs v us Q I rx rs ⟨μ, dx, ds, st, d, st', S, r1, rd, h, p⟩
  obtain ⟨z, rfl, rfl, h⟩ := mth_str r1 h
  match ds, rd, h with
  | [], _, h => cases h
  | [d0], rd, h =>
    obtain ⟨y, rfl, r2⟩ := rl1 rd
    have h : (match sign1 d0 with | some c => R.ok (D.int (findS z.cps.toList c 0 z.length)) st | none => R.no) = .ok d st' := h
    cases e : sign1 d0 with
    | none => rw [e] at h; cases h
    | some c =>
      rw [e] at h
      cases h
      cases sign1_ok e
      cases (show y = .str _ from r2)
      refine mt_find pins s σ H _ _ v us Q I rx rs ⟨z, _, rfl, rfl, ?_⟩
      rw [show Txt.find z ⟨#[c]⟩ = findS z.cps.toList c 0 z.length from occ_find z c 0 z.length (Nat.le_refl _)]
      exact p.int S
  | [d0, d1], rd, h =>
    obtain ⟨y, w, rfl, r2, r3⟩ := rl2 rd
    have h : (match sign1 d0 with | some c => (match d1 with | .int i => R.ok (D.int (findS z.cps.toList c (clip z.length i) z.length)) st | _ => R.no) | none => R.no) = .ok d st' := h
    cases e : sign1 d0 with
    | none => rw [e] at h; cases h
    | some c =>
      rw [e] at h
      cases d1 with
      | int i =>
        cases (show R.ok (D.int (findS z.cps.toList c (clip z.length i) z.length)) st = .ok d st' from h)
        cases sign1_ok e
        cases (show y = .str _ from r2)
        cases (show w = .int _ from r3)
        refine mt_find3 pins s σ H _ _ v us Q I rx rs ⟨z, _, i, rfl, rfl, ?_⟩
        have e3 : Txt.find3 z ⟨#[c]⟩ i = findS z.cps.toList c (clip z.length i) z.length := by
          rw [← findS_lo z.cps.toList c z.length i (by rw [Array.length_toList]; rfl) z.length (Nat.le_refl _)]
          exact occ_find z c _ z.length (Nat.le_refl _)
        rw [e3]
        exact p.int S
      | _ => cases h
  | [d0, d1, d2], rd, h =>
    obtain ⟨y, w, u, rfl, r2, r3, r4⟩ := rl3 rd
    have h : (match sign1 d0 with | some c => (match d1 with | .int i => (match d2 with | .int j => R.ok (D.int (findS z.cps.toList c (clip z.length i) (clip z.length j))) st | _ => R.no) | _ => R.no) | none => R.no) = .ok d st' := h
    cases e : sign1 d0 with
    | none => rw [e] at h; cases h
    | some c =>
      rw [e] at h
      cases d1 with
      | int i =>
        cases d2 with
        | int j =>
          cases (show R.ok (D.int (findS z.cps.toList c (clip z.length i) (clip z.length j))) st = .ok d st' from h)
          cases sign1_ok e
          cases (show y = .str _ from r2)
          cases (show w = .int _ from r3)
          cases (show u = .int _ from r4)
          refine mt_find4 pins s σ H _ _ v us Q I rx rs ⟨z, _, i, j, rfl, rfl, ?_⟩
          have e3 : Txt.findIn z ⟨#[c]⟩ i j = findS z.cps.toList c (clip z.length i) (clip z.length j) := by
            obtain ⟨c1, c2⟩ := clip_hi z.length j
            rw [← findS_lo z.cps.toList c z.length i (by rw [Array.length_toList]; rfl) (clip z.length j) c2]
            unfold Txt.findIn
            rw [c1]
            exact occ_find z c _ (clip z.length j) c2
          rw [e3]
          exact p.int S
        | _ => cases h
      | _ => cases h
  | _ :: _ :: _ :: _ :: _, _, h => cases h
theorem mth_all {k : Kd} {m : Mth} (h : hasM k m = true) : MthR X k m := by
  cases k <;> cases m <;> first | (exact absurd h Bool.false_ne_true) | skip
  · exact ⟨_, PySem.F.plainAttrs_str, PySem.F.slot_str_join, PySem.F.type_str_join, mt_s_join⟩
  · exact ⟨_, PySem.F.plainAttrs_str, PySem.F.slot_str_find, PySem.F.type_str_find, mt_s_find⟩
  · exact ⟨_, PySem.F.plainAttrs_list, PySem.F.slot_list_append, PySem.F.type_list_append, mt_l_append⟩
  · exact ⟨_, PySem.F.plainAttrs_list, PySem.F.slot_list_extend, PySem.F.type_list_extend, mt_l_extend⟩
  · exact ⟨_, PySem.F.plainAttrs_list, PySem.F.slot_list_pop, PySem.F.type_list_pop, mt_l_pop⟩
end
end Ev
end

section
set_option Elab.async false
set_option linter.all false
set_option maxRecDepth 100000
set_option maxHeartbeats 2000000
/-! Snd11: the calls of built-ins and of methods, as expressions. -/
namespace Ev
open PySem PySem.Spec L2
def bltN : Blt → Str
  | .len => "len" | .range => "range" | .tuple => "tuple" | .list => "list" | .set => "set" | .dict => "dict" | .sorted => "sorted" | .min => "min" | .max => "max" | .sum => "sum" | .abs => "abs" | .int => "int" | .str => "str"
  | .enumerate => "enumerate" | .zip => "zip" | .reversed => "reversed" | .all => "all" | .any => "any" | .ord => "ord" | .factorial => "factorial" | .gcd => "gcd" | .lcm => "lcm"
/-- the built-in functions, the built-in types that have a rule here -/
def bltF : Blt → Option String
  | .len => some "len" | .abs => some "abs" | .ord => some "ord"
  | _ => none
def bltT : Blt → Option String
  | .tuple => some "tuple" | .list => some "list" | .int => some "int" | .str => some "str"
  | _ => none
theorem star_any {env : PySem.Env} {pos : Pos} : ∀ {es : List Expr}, nsts es = true → (backTo pos (starEach es env)).any (·.1) = false
  | [], _ => rfl
  | e :: es, h => by
    obtain ⟨h1, h2⟩ := b_and h
    rw [star_cons h1]
    show (false || (backTo pos (starEach es env)).any (·.1)) = false
    rw [star_any h2]
    rfl
theorem star_all {env : PySem.Env} {pos : Pos} : ∀ {es : List Expr}, nsts es = true → (backTo pos (starEach es env)).all (fun x => !x.1) = true
  | [], _ => rfl
  | e :: es, h => by
    obtain ⟨h1, h2⟩ := b_and h
    rw [star_cons h1]
    show (true && (backTo pos (starEach es env)).all (fun x => !x.1)) = true
    rw [star_all h2]
    rfl
/-- not super() -/
def nsup : Expr → Bool
  | .Call f args kws _ => (match args with | [] => (match kws with | [] => (match f with | .Name .. => false | _ => true) | _ :: _ => true) | _ :: _ => true)
  | _ => true
theorem nsup_ok {o : Expr} (h : nsup o = true) (m : Str) (env : PySem.Env) : attributeBase o m env (eval o env) = eval o env := by
  cases o <;> try rfl
  rename_i f args kws p
  cases f <;> cases args <;> cases kws <;> first | rfl | exact absurd h Bool.false_ne_true
section
variable {X : Cx} {Z : ZT} {P : List Fn} {n : Nat} {r rc : Ev} {a b c : E} {xa xb xc : Expr} {pos p apos : Pos} {es : List Expr} {x : Str}
theorem cr_fun {b : Blt} {f : String} (h : bltF b = some f) : CallR X (.builtin f) (vBlt X.K b) ∧ bootBuiltins (bltN b) = some (.builtin f) := by
  cases b <;> cases h
  · exact ⟨cr_len, PySem.boot_len⟩
  · exact ⟨cr_abs, PyProof.Rows.boot_abs⟩
  · exact ⟨cr_ord, PyProof.Rows.boot_ord⟩
theorem cr_type {b : Blt} {f : String} (h : bltT b = some f) : CallR X (.type f) (vBlt X.K b) ∧ bootBuiltins (bltN b) = some (.type f) := by
  cases b <;> cases h
  · exact ⟨cr_tuple, PyProof.Rows.boot_tuple⟩
  · exact ⟨cr_list, PyProof.Rows.boot_list⟩
  · exact ⟨cr_int, PyProof.Rows.boot_int⟩
  · exact ⟨cr_str, PyProof.Rows.boot_str⟩
theorem blt_core {b : Blt} {as : E} (hz : ZMono Z) (hr : asRng (oneE as) = none) {σ : L2.St} {H : Hp} {Q : VK} (h : tE X.K Z (step P n r rc) (.blt b as) σ H Q) : tCB (vBlt X.K b) (tEs X.K Z r as) σ H Q := by
  obtain ⟨μ, env, st, hE, hS, h⟩ := h
  have h : ((r.es as env st).bind fun ds st => (bltA b ds st).val).pst (fun d st' => Post X.K μ H d st' Q) (Z μ H) := by
    have e : (step P n r rc).e (.blt b as) env st = (r.es as env st).bind fun ds st => (bltA b ds st).val := by
      show (match asRng (oneE as) with | some as => _ | none => (r.es as env st).bind fun ds st => (bltA b ds st).val) = _
      rw [hr]
    rw [← e]
    exact h
  exact seqA hz hE hS h fun ds st1 μ1 vs H1 L1 r1 S1 h1 => by
    obtain ⟨d, st2, e, q⟩ := pst_val h1
    exact ⟨μ1, ds, st1, d, st2, S1, r1, e, q.mono L1⟩
theorem e_blt {b : Blt} {as : E} (hz : ZMono Z) (hf : (bltF b).isSome = true ∨ (bltT b).isSome = true) (hr : asRng (oneE as) = none) (hg : Gl X (bltN b)) (hm : X.mg (bltN b) = none) (ha : PA X (xa :: es) (tEs X.K Z r as)) (hs : nsts (xa :: es) = true) :
    PE X (.Call (.Name (bltN b) p) (xa :: es) [] pos) (tE X.K Z (step P n r rc) (.blt b as)) := by
  obtain ⟨h1, h2⟩ := b_and hs
  rcases hf with hf | hf
  · cases e : bltF b with
    | none => rw [e] at hf; cases hf
    | some f =>
      obtain ⟨g1, g2⟩ := cr_fun (X := X) e
      exact impE (pe_callB g1 hg hm g2 ha (by cases b <;> first | decide | cases e) (by cases b <;> first | decide | cases e) (star_cons h1) (star_any h2)) fun σ H Q h => blt_core hz hr h
  · cases e : bltT b with
    | none => rw [e] at hf; cases hf
    | some f =>
      obtain ⟨g1, g2⟩ := cr_type (X := X) e
      exact impE (pe_callTy g1 hg hm g2 ha (by cases b <;> first | decide | cases e) (by cases b <;> first | decide | cases e) (star_cons h1) (star_any h2)) fun σ H Q h => blt_core hz hr h
/-! ### methods -/
theorem e_mth {m : Mth} {as : E} (hz : ZMono Z) (ho : PE X xa (tE X.K Z r a)) (ha : PA X es (tEs X.K Z r as)) (hs : nsts es = true) (hsup : nsup xa = true) (hl : (apos.endLine == pos.line) = true) (hn : es.length < 29) :
    PE X (.Call (.Attribute xa (mthN m) apos) es [] pos) (tE X.K Z (step P n r rc) (.mth m a as)) := by
  refine ⟨fun pins s σ H Q I ⟨μ, env, st, hE, hS, h⟩ => ?_⟩
  have h : ((r.e a env st).bind fun x st => (match kdOf x st with | some k => if hasM k m = true then (r.es as env st).bind fun ds st => (mthV k m x ds st).val else .no | none => .no)).pst (fun d st' => Post X.K μ H d st' Q) (Z μ H) := h
  have hfew : ((backTo pos (starEach es X.env)).all (fun x => !x.1) && (backToKw pos (keywordEach [] X.env)).all (fun x => x.1.isSome) && decide (es.length + ([] : List Keyword).length + (if ([] : List Keyword).isEmpty then 0 else 1) < 30)) = true := by
    rw [star_all hs]
    simp [keywordEach, backToKw]
    omega
  refine wpAny_Call_method_late (nsup_ok hsup _ _) hfew hl rfl (thn (ho.run pins s σ H (fun v H1 => ∃ μ1 d st1, Le μ H μ1 H1 ∧ StR X.K μ1 H1 st1 ∧ Rep X.K μ1 H1 d v ∧
    (match kdOf d st1 with | some k => if hasM k m = true then (r.es as env st1).bind fun ds st => (mthV k m d ds st).val else R.no | none => R.no).pst (fun d st' => Post X.K μ H d st' Q) (Z μ1 H1)) I (seqE hz hE hS h fun d st1 μ1 v H1 L1 r1 S1 h1 => ⟨μ1, d, st1, L1, S1, r1, h1⟩)) fun v s1 ⟨x, H1, I1, rx, μ1, d, st1, L1, S1, rd, hw⟩ => ?_)
  cases ek : kdOf d st1 with
  | none => rw [ek] at hw; exact hw.elim
  | some k =>
    rw [ek] at hw
    obtain ⟨hh, hw⟩ := pst_ite (show (if hasM k m = true then (r.es as env st1).bind fun ds st => (mthV k m d ds st).val else R.no).pst (fun d st' => Post X.K μ H d st' Q) (Z μ1 H1) from hw)
    obtain ⟨t1, t2⟩ := kd_is I1 S1 rd rx ek
    have hA := ha.run pos pins s1 σ H1 (fun vs H2 => ∃ μ2 ds st2, Le μ H μ2 H2 ∧ StR X.K μ2 H2 st2 ∧ Rep X.K μ2 H2 d x ∧ RepL X.K μ2 H2 ds vs ∧
      (mthV k m d ds st2).val.pst (fun d st' => Post X.K μ H d st' Q) (Z μ2 H2)) I1 (seqA hz (hE.mono L1) S1 hw fun ds st2 μ2 vs H2 L2 r2 S2 h2 => ⟨μ2, ds, st2, Le.trans L1 L2, S2, rd.mono L2, r2, h2⟩)
    obtain ⟨id, pa, slot, hty, hm⟩ := mth_all (X := X) hh
    refine ⟨kdT k, id, pa, slot, hty, t1, t2, ?_⟩
    have fin : ∀ us s2, AP X pins σ (fun vs H2 => ∃ μ2 ds st2, Le μ H μ2 H2 ∧ StR X.K μ2 H2 st2 ∧ Rep X.K μ2 H2 d x ∧ RepL X.K μ2 H2 ds vs ∧ (mthV k m d ds st2).val.pst (fun d st' => Post X.K μ H d st' Q) (Z μ2 H2)) us s2 →
        wpAny (model X.prog X.w) X.A (call (.builtin id) (v :: us)) (EP X pins σ Q) X.xe s2 := fun us s2 ⟨vs, H2, I2, r2, μ2, ds, st2, L2, S2, rd2, rds, h2⟩ => by
      obtain ⟨d3, st3, e, q⟩ := pst_val h2
      exact hm pins s2 σ H2 x vs v us Q I2 rx r2 ⟨μ2, d, ds, st2, d3, st3, S2, rd2, rds, e, q.mono L2⟩
    cases es with
    | nil =>
      refine Calls.callWith_builtin rfl ?_
      unfold evalArgs
      show wpAny _ _ (spliced [] >>= _) _ _ s1
      refine wpAny_bind (thn (show wpAny (model X.prog X.w) X.A (spliced []) _ X.xe s1 from hA) fun vs s' h' => ?_)
      refine wpAny_holding ?_
      exact wpAny_bind (wpAny_pure (wpAny_bind (wpAny_pure (wpAny_pure (fin vs s' h')))))
    | cons e es =>
      obtain ⟨n1, n2⟩ := b_and hs
      rw [star_cons n1] at hA ⊢
      refine Calls.callWith_builtin (by show (false || (backTo pos (starEach es X.env)).any (·.1)) = false; rw [star_any n2]; rfl) (Calls.evalArgs_plain ?_)
      exact thn hA fun us s2 q => fin us s2 q
end
end Ev
end

section
set_option Elab.async false
set_option linter.all false
set_option maxRecDepth 100000
set_option maxHeartbeats 2000000
/-! Snd12: isinstance, replacing, targets, what is walked. -/
namespace Ev
open PySem PySem.Spec L2
section
variable {X : Cx} {Z : ZT} {P : List Fn} {n : Nat} {r rc : Ev} {a b c : E} {xa xb xc : Expr} {pos p p2 apos : Pos} {es : List Expr} {x : Str}
theorem boot_ty (t : Ty) : bootBuiltins (Str.ofString (tyN t)) = some (.type (tyN t)) := by
  cases t
  · exact PyProof.Rows.boot_int
  · exact PyProof.Rows.boot_str
  · exact PyProof.Rows.boot_tuple
  · exact PyProof.Rows.boot_bool
  · exact PyProof.Rows.boot_list
theorem e_isi {t : Ty} (hz : ZMono Z) (ha : PE X xa (tE X.K Z r a)) (hn : nst xa = true) (hg : Gl X "isinstance") (hm : X.mg "isinstance" = none) (hg2 : Gl X (Str.ofString (tyN t))) (hm2 : X.mg (Str.ofString (tyN t)) = none) :
    PE X (.Call (.Name "isinstance" p) [xa, .Name (Str.ofString (tyN t)) p2] [] pos) (tE X.K Z (step P n r rc) (.isi t a)) := by
  have h2 : PE X (.Name (Str.ofString (tyN t)) p2) (tC (.ty (tyN t))) := pe_bltn hg2 hm2 (boot_ty t) (show RelV (V.ty (tyN t)) (.type (tyN t)) from rfl) (by cases t <;> decide) (by cases t <;> decide)
  refine impE (pe_callB call_isi hg hm PyProof.Rows.boot_isinstance (pa_cons ha (pa_cons h2 pa_nil) (star_cons hn)) (by decide) (by decide) (star_cons hn)) fun σ H Q ⟨μ, env, st, hE, hS, h⟩ => ?_
  refine seqE hz hE hS h fun d st1 μ1 v H1 L1 r1 S1 h1 => ?_
  obtain ⟨k, e, q⟩ := pst_ofB h1
  obtain ⟨a', e1, e2, e3⟩ := isTy_kind e
  subst e3
  exact ⟨v, .ty (tyN t), _, _, tyB a' t, rfl, .ty _, rep_ty S1 r1 e1, kit_all e2 t, q μ1 _ H1 L1 rfl S1⟩
/-! ### replacing -/
theorem rplS_eq (y z : List Nat) : ∀ (k : Nat) (l : List Nat), rplS y z k l = StrLaws.replS y z k l
  | k, [] => by cases k <;> simp [rplS, StrLaws.replS]
  | 0, c :: r => by
    unfold StrLaws.replS
    show (if ((c :: r).take y.length == y) = true then z ++ rplS y z (y.length - 1) r else c :: rplS y z 0 r) = _
    by_cases h : (c :: r).take y.length = y
    · rw [if_pos (by simpa using h), if_pos h, rplS_eq y z _ r]
    · rw [if_neg (by simpa using h), if_neg h, rplS_eq y z _ r]
  | k + 1, c :: r => by
    unfold StrLaws.replS
    exact rplS_eq y z k r
theorem rpl_core {y z : Str} (hz : ZMono Z) {σ : L2.St} {H : Hp} {Q : VK} (h : tE X.K Z (step P n r rc) (.rpl a y z) σ H Q) : CwR.tReplC (tE X.K Z r a) y z σ H Q := by
  obtain ⟨μ, env, st, hE, hS, h⟩ := h
  refine seqE hz hE hS h fun d st1 μ1 v H1 L1 r1 S1 h1 => ?_
  cases d with
  | str s =>
    have h1 : (if (Nat.ble 1 y.length && Nat.ble (s.length + (s.length + 1) * z.length) line) = true then R.ok (D.str (ofChars (rplS y.cps.toList z.cps.toList 0 s.cps.toList))) st1 else R.no).pst (fun d st' => Post X.K μ H d st' Q) (Z μ1 H1) := h1
    obtain ⟨hb, q⟩ := pst_ite h1
    obtain ⟨b1, b2⟩ := b_and hb
    have hy := Nat.ble_eq.mp b1
    refine ⟨s, r1, Nat.ble_eq.mp b2, ?_⟩
    have e : Txt.replace s y z = ofChars (rplS y.cps.toList z.cps.toList 0 s.cps.toList) := by
      rw [rplS_eq]
      have := StrLaws.replace_list (x := s) (z := z) hy
      unfold StrLaws.replL at this
      rw [← this]
      rfl
    rw [e]
    exact q μ1 _ H1 L1 rfl S1
  | _ => exact h1.elim
theorem k_rplC {y z : Str} {j k : Nat} {c0 c1 : Pos} (hz : ZMono Z) (ho : PE X xa (tE X.K Z r a)) (hyz : (y == z) = false) (hsup : nsup xa = true) (hl : (apos.endLine == pos.line) = true) :
    PET X (.Call (.Attribute xa "replace" apos) [.Constant (.str y) j c0, .Constant (.str z) k c1] [] pos) (tE X.K Z (step P n r rc) (.rpl a y z)) := fun pins s σ H Q h0 I h =>
  CwR.pet_replC ho hyz rfl (nsup_ok hsup _ _) hl pins s σ H Q h0 I (rpl_core hz h)
theorem k_rplT {y z : Str} {j k : Nat} {c0 c1 : Pos} (hz : ZMono Z) (ho : PET X xa (tE X.K Z r a)) (hyz : (y == z) = false) (hsup : nsup xa = true) (hl : (apos.endLine == pos.line) = true) :
    PET X (.Call (.Attribute xa "replace" apos) [.Constant (.str y) j c0, .Constant (.str z) k c1] [] pos) (tE X.K Z (step P n r rc) (.rpl a y z)) := fun pins s σ H Q h0 I h =>
  CwR.pet_replT ho hyz rfl (nsup_ok hsup _ _) hl pins s σ H Q h0 I (rpl_core hz h)
/-- 'text' + e, where e wants a token given out -/
theorem e_binT (hz : ZMono Z) {o : Bop} {y : Str} {j : Nat} {c0 : Pos} (hr : ∀ env st, r.e (.cst (.str y)) env st = .ok (.str y) st ∨ r.e (.cst (.str y)) env st = .no) (hb : PET X xb (tE X.K Z r b)) :
    PE X (.BinOp (.Constant (.str y) j c0) (pyB o) xb pos) (tE X.K Z (step P n r rc) (.bin o (.cst (.str y)) b)) := by
  refine ⟨fun pins s σ H Q I ⟨μ, env, st, hE, hS, h⟩ => ?_⟩
  have h : ((r.e (.cst (.str y)) env st).bind fun x st => (r.e b env st).bind fun w st => (binop o x w st).val).pst (fun d st' => Post X.K μ H d st' Q) (Z μ H) := h
  rcases hr env st with e | e
  · rw [e] at h
    refine wpAny_BinOp (Calls.Constant_str ?_)
    refine thn (hb pins _ σ H _ (Nat.le_add_left 1 _) (I.tok _) (seqE hz hE hS (show ((r.e b env st).bind fun w st => (binop o (.str y) w st).val).pst (fun d st' => Post X.K μ H d st' Q) (Z μ H) from h) (Q := fun w H2 => vBin X.K (binop o) (.str y) w H2 Q) fun d2 st2 μ2 v2 H2 L2 r2 S2 h2 => ?_)) fun u s2 ⟨w, H2, I2, r2, q2⟩ => ?_
    · obtain ⟨d3, st3, e, q⟩ := pst_val h2
      exact ⟨μ2, .str y, d2, st2, d3, st3, S2, rfl, r2, e, q.mono L2⟩
    · exact op_bin o pins s2 σ H2 (.str y) w _ u Q I2 ⟨_, rfl⟩ r2 q2
  · rw [e] at h
    exact h.elim
/-! ### targets -/
def T.len : T → Nat
  | .nm _ => 0
  | .nil => 0
  | .cons _ r => r.len + 1
mutual
def gT (K : PySem.W.Frag) : T → TG
  | .nm i => gName i
  | .nil => gTup K 0 gNil
  | .cons t r => gTup K (r.len + 1) (gCons (gT K t) (gTs K r))
def gTs (K : PySem.W.Frag) : T → TGs
  | .nm _ => fun _ _ _ _ => False
  | .nil => gNil
  | .cons t r => gCons (gT K t) (gTs K r)
end
def T.isNm : T → Bool
  | .nm _ => true
  | _ => false
mutual
/-- a target as it is written -/
def T.wf : T → Bool
  | .nm _ => true
  | .nil => true
  | .cons t r => t.wf && r.row
def T.row : T → Bool
  | .nm _ => false
  | .nil => true
  | .cons t r => t.wf && r.row
end
section
variable {K : PySem.W.Frag} {μ : List Addr} {H : Hp}
theorem take_len : ∀ (t : T) (xs : List D) (env env' : Env), t.row = true → T.take t (.tup xs) env = some env' → xs.length = t.len
  | .nm _, _, _, _, hw, _ => by cases hw
  | .nil, xs, _, _, _, h => by
    cases xs with
    | nil => rfl
    | cons _ _ => cases h
  | .cons t q, xs, env, env', hw, h => by
    obtain ⟨w1, w2⟩ := b_and (show (t.wf && q.row) = true from hw)
    cases xs with
    | nil => cases h
    | cons x xs =>
      have h : (match T.take t x env with | some env => T.take q (.tup xs) env | none => none) = some env' := h
      cases e : T.take t x env with
      | none => rw [e] at h; cases h
      | some env1 =>
        rw [e] at h
        show xs.length + 1 = q.len + 1
        rw [take_len q xs env1 env' w2 h]
mutual
theorem take_t : ∀ (t : T) (d : D) (env env' : Env), t.wf = true → T.take t d env = some env' → ∀ (σ : L2.St) (v : V) (Q : L2.St → Hp → Prop), EnvR K μ H env σ → Rep K μ H d v → (∀ σ', EnvR K μ H env' σ' → Q σ' H) → gT K t v σ H Q
  | .nm i, d, env, env', _, h, σ, v, Q, hE, r, k => by
    cases (show some (env.put i d) = some env' from h)
    exact k _ (hE.put r)
  | .nil, d, env, env', _, h, σ, v, Q, hE, r, k => by
    cases d with
    | tup xs =>
      cases xs with
      | nil =>
        cases (show some env = some env' from h)
        obtain ⟨a, vs, its, rfl, ha, hv⟩ := r
        cases (show vs = [] from hv)
        exact ⟨a, [], rfl, .inl (.inr ⟨_, ha⟩), rfl, rfl, k σ hE⟩
      | cons _ _ => cases h
    | _ => cases h
  | .cons t q, d, env, env', hw, h, σ, v, Q, hE, r, k => by
    cases d with
    | tup xs =>
      obtain ⟨a, vs, its, rfl, ha, hv⟩ := r
      obtain ⟨g1, g2⟩ := take_r (.cons t q) xs env env' hw h σ vs Q hE (RepL.iff.mp hv) k
      exact ⟨a, vs, rfl, .inl (.inr ⟨_, ha⟩), by rw [← (RepL.iff.mp hv).length]; exact g2, g1⟩
    | _ => cases h
theorem take_r : ∀ (t : T) (xs : List D) (env env' : Env), t.row = true → T.take t (.tup xs) env = some env' → ∀ (σ : L2.St) (vs : List V) (Q : L2.St → Hp → Prop), EnvR K μ H env σ → Paired (Rep K μ H) xs vs → (∀ σ', EnvR K μ H env' σ' → Q σ' H) → gTs K t vs σ H Q ∧ xs.length = t.len
  | .nm i, xs, env, env', hw, h, σ, vs, Q, hE, r, k => by cases hw
  | .nil, xs, env, env', _, h, σ, vs, Q, hE, r, k => by
    cases xs with
    | nil =>
      cases (show some env = some env' from h)
      cases r
      exact ⟨⟨rfl, k σ hE⟩, rfl⟩
    | cons _ _ => cases h
  | .cons t q, xs, env, env', hw, h, σ, vs, Q, hE, r, k => by
    obtain ⟨w1, w2⟩ := b_and (show (t.wf && q.row) = true from hw)
    cases xs with
    | nil => cases h
    | cons x xs =>
      have h : (match T.take t x env with | some env => T.take q (.tup xs) env | none => none) = some env' := h
      cases e : T.take t x env with
      | none => rw [e] at h; cases h
      | some env1 =>
        rw [e] at h
        cases r with
        | @cons _ v _ vs' r1 r2 =>
          have key : ∀ σ1, EnvR K μ H env1 σ1 → gTs K q vs' σ1 H Q ∧ xs.length = q.len := fun σ1 h1 => take_r q xs env1 env' w2 h σ1 vs' Q h1 r2 k
          have kl : xs.length = q.len := take_len q xs env1 env' w2 h
          exact ⟨⟨v, vs', rfl, take_t t x env env1 w1 e σ v _ hE r1 fun σ1 h1 => (key σ1 h1).1⟩, by show xs.length + 1 = q.len + 1; rw [kl]⟩
end
/-- a pair just made -/
theorem take_pair {t : T} {d1 d2 : D} {env env' : Env} (hw : t.wf = true) (hn : t.isNm = false) (h : T.take t (.tup [d1, d2]) env = some env') {σ : L2.St} {a : Addr} {v w : V} {Q : L2.St → Hp → Prop} (hE : EnvR K μ H env σ) (hs : SqT K H a [v, w]) (r1 : Rep K μ H d1 v) (r2 : Rep K μ H d2 w)
    (k : ∀ σ', EnvR K μ H env' σ' → Q σ' H) : gT K t (.ref a) σ H Q := by
  cases t with
  | nm i => cases hn
  | nil => cases h
  | cons t q =>
    obtain ⟨g1, g2⟩ := take_r (.cons t q) [d1, d2] env env' hw h σ [v, w] Q hE (.cons r1 (.cons r2 .nil)) k
    exact ⟨a, [v, w], rfl, hs, g2, g1⟩
end
/-! ### what is walked -/
section
variable {K : PySem.W.Frag} {μ : List Addr} {H : Hp} {st : Sto}
theorem beqKV_eq : True := trivial
mutual
theorem beq_eq : ∀ {x y : D}, D.beq x y = true → x = y
  | .non, y, h => by cases y <;> first | rfl | cases h
  | .bl a, y, h => by
    cases y <;> first | (exact absurd h Bool.false_ne_true) | skip
    rw [eq_of_beq (show (a == _) = true from h)]
  | .int a, y, h => by
    cases y <;> first | (exact absurd h Bool.false_ne_true) | skip
    rw [eq_of_beq (show (a == _) = true from h)]
  | .str a, y, h => by
    cases y <;> first | (exact absurd h Bool.false_ne_true) | skip
    rename_i b
    have h : sEq a b = true := h
    rw [sEq_eq] at h
    rw [eq_of_beq h]
  | .tup xs, y, h => by
    cases y <;> first | (exact absurd h Bool.false_ne_true) | skip
    rw [beqL_eq (show D.beqL xs _ = true from h)]
  | .ref a, y, h => by
    cases y <;> first | (exact absurd h Bool.false_ne_true) | skip
    rw [eq_of_beq (show (a == _) = true from h)]
  | .fn a, y, h => by
    cases y <;> first | (exact absurd h Bool.false_ne_true) | skip
    rw [eq_of_beq (show (a == _) = true from h)]
  | .rol a, y, h => by
    cases y <;> first | (exact absurd h Bool.false_ne_true) | skip
    rw [eq_of_beq (show (a == _) = true from h)]
theorem beqL_eq : ∀ {xs ys : List D}, D.beqL xs ys = true → xs = ys
  | [], ys, h => by cases ys <;> first | rfl | cases h
  | x :: xs, ys, h => by
    cases ys with
    | nil => cases h
    | cons y ys =>
      obtain ⟨h1, h2⟩ := b_and (show (D.beq x y && D.beqL xs ys) = true from h)
      rw [beq_eq h1, beqL_eq h2]
end
theorem src_one {l : Nat} {xs : List D} (h : srcOk st [(l, .lst xs)] = true) : sget st l = some (.lst xs) := by
  have h : ((match sget st l with | some o => O.beq (.lst xs) o | none => false) && true) = true := h
  obtain ⟨h, _⟩ := b_and h
  cases e : sget st l with
  | none => rw [e] at h; cases h
  | some o =>
    rw [e] at h
    cases o with
    | lst ys => rw [beqL_eq (show D.beqL xs ys = true from h)]
    | _ => cases h
theorem it_list {a : Addr} {l : Nat} {xs : List D} (ha : μ[l]? = some a) : ItOk K (Itl K a) ⟨xs, [(l, .lst xs)], false⟩ μ H := fun i μ2 H2 st2 L S h => by
  obtain ⟨vs, h1, h2⟩ := S.lst (L.pre l a ha) (src_one h)
  have q : SqL K H2 a vs := .inl (.inl h1)
  refine ⟨fun d hd => ?_, fun hn => ⟨vs, q, ?_⟩⟩
  · obtain ⟨v, g1, g2⟩ := Pr.get h2 hd
    refine ⟨⟨vs, v, q, g1⟩, fun x H3 ⟨e1, e2⟩ => ⟨e1, ?_⟩⟩
    have e3 := e2 vs q
    rw [g1] at e3
    cases e3
    exact g2
  · rw [← h2.length]
    exact List.getElem?_eq_none_iff.mp hn
theorem it_tup {a : Addr} {xs : List D} {vs : List V} {its : List Value} (ha : H a = some (.frz (tupO its) (.tup vs))) (hv : Paired (Rep K μ H) xs vs) : ItOk K (Itt K a) ⟨xs, [], false⟩ μ H := fun i μ2 H2 st2 L S h => by
  have q : SqT K H2 a vs := .inl (.inr ⟨_, L.im _ _ ha trivial⟩)
  refine ⟨fun d hd => ?_, fun hn => ⟨vs, q, ?_⟩⟩
  · obtain ⟨v, g1, g2⟩ := Pr.get hv hd
    refine ⟨⟨vs, v, q, g1⟩, fun x H3 ⟨e1, e2⟩ => ⟨e1, ?_⟩⟩
    have e3 := e2 vs q
    rw [g1] at e3
    cases e3
    exact g2.mono L
  · rw [← hv.length]
    exact List.getElem?_eq_none_iff.mp hn
theorem it_rol {a : Addr} {ns : List Int} (ha : Ro K H a (ns.map V.int)) : ItOk K (Itl K a) ⟨ns.map .int, [], false⟩ μ H := fun i μ2 H2 st2 L S h => by
  have q : SqL K H2 a (ns.map V.int) := (L.ro ha).seq
  refine ⟨fun d hd => ?_, fun hn => ⟨_, q, ?_⟩⟩
  · have hd : (ns.map D.int)[i]? = some d := hd
    rw [List.getElem?_map] at hd
    cases e : ns[i]? with
    | none => rw [e] at hd; cases hd
    | some m =>
      rw [e] at hd
      cases hd
      have g1 : (ns.map V.int)[i]? = some (V.int m) := by rw [List.getElem?_map, e]; rfl
      refine ⟨⟨_, _, q, g1⟩, fun x H3 ⟨e1, e2⟩ => ⟨e1, ?_⟩⟩
      have e3 := e2 _ q
      rw [g1] at e3
      exact (Option.some.inj e3).symm
  · have := List.getElem?_eq_none_iff.mp (show (ns.map D.int)[i]? = none from hn)
    simpa using this
theorem it_str {z : Str} : ItOk K (Its z) ⟨z.cps.toList.map fun c => .str ⟨#[c]⟩, [], false⟩ μ H := fun i μ2 H2 st2 L S h => by
  refine ⟨fun d hd => ?_, fun hn => ?_⟩
  · have hd : (z.cps.toList.map fun c => D.str ⟨#[c]⟩)[i]? = some d := hd
    rw [List.getElem?_map] at hd
    cases e : z.cps.toList[i]? with
    | none => rw [e] at hd; cases hd
    | some m =>
      rw [e] at hd
      cases hd
      have e4 : z.cps[i]? = some m := by simpa using e
      refine ⟨?_, fun x H3 ⟨e1, k, e2, e3⟩ => ⟨e1, ?_⟩⟩
      · show i < z.cps.size
        have := (List.getElem?_eq_some_iff.mp e).1
        simpa using this
      · rw [e4] at e2
        cases e2
        exact e3
  · have := List.getElem?_eq_none_iff.mp (show (z.cps.toList.map fun c => D.str ⟨#[c]⟩)[i]? = none from hn)
    show z.cps.size ≤ i
    simpa using this
theorem it_keys {a : Addr} {ob : Obj} {kvs : List (D × D)} {l' : List (Key × V)} (ha : H a = some (.frz ob (.dK l'))) (hk : KVR K μ H kvs l') : ItOk K (Itk a ob l') ⟨kvs.map (·.1), [], false⟩ μ H := fun i μ2 H2 st2 L S h => by
  have q := L.im _ _ ha trivial
  refine ⟨fun d hd => ?_, fun hn => ⟨q, ?_⟩⟩
  · have hd : (kvs.map (·.1))[i]? = some d := hd
    rw [List.getElem?_map] at hd
    cases e : kvs[i]? with
    | none => rw [e] at hd; cases hd
    | some m =>
      rw [e] at hd
      cases hd
      obtain ⟨v, g1, g2, g3⟩ := Pr.get hk e
      refine ⟨⟨q, (List.getElem?_eq_some_iff.mp g1).1⟩, fun x H3 ⟨e1, k, w, e2, e3⟩ => ⟨e1, ?_⟩⟩
      rw [g1] at e2
      cases e2
      show Rep K μ2 H2 m.1 x
      rw [g2, e3]
      exact rep_kD'
  · have := List.getElem?_eq_none_iff.mp (show (kvs.map (·.1))[i]? = none from hn)
    rw [List.length_map, hk.length] at this
    exact this
theorem ints_len (a : Int) : ∀ n, (intsFrom a n).length = n
  | 0 => rfl
  | n + 1 => by show (intsFrom (a + 1) n).length + 1 = n + 1; rw [ints_len (a + 1) n]
theorem ints_get : ∀ (a : Int) (n i : Nat), i < n → (intsFrom a n)[i]? = some (.int (a + i))
  | a, 0, i, h => by omega
  | a, n + 1, 0, h => by show some (D.int a) = _; simp
  | a, n + 1, i + 1, h => by
    show (intsFrom (a + 1) n)[i]? = _
    rw [ints_get (a + 1) n i (by omega)]
    congr 2
    omega
theorem it_rng {lo : Int} {n : Nat} : ItOk K (Itr lo n) ⟨intsFrom lo n, [], false⟩ μ H := fun i μ2 H2 st2 L S h => by
  refine ⟨fun d hd => ?_, fun hn => ?_⟩
  · have hi : i < n := by
      have := (List.getElem?_eq_some_iff.mp (show (intsFrom lo n)[i]? = some d from hd)).1
      rwa [ints_len] at this
    have e := ints_get lo n i hi
    have hd : (intsFrom lo n)[i]? = some d := hd
    rw [e] at hd
    cases hd
    exact ⟨hi, fun x H3 ⟨e1, e2⟩ => ⟨e1, e2⟩⟩
  · have := List.getElem?_eq_none_iff.mp (show (intsFrom lo n)[i]? = none from hn)
    rw [ints_len] at this
    exact this
end
section
variable {X : Cx} {Z : ZT} {P : List Fn} {n : Nat} {r rc : Ev} {a b c : E} {xa xb xc tg : Expr} {pos p p2 apos : Pos} {es : List Expr} {x : Str}
/-- reading an iterator off a value: by the value's kind -/
def tItV (K : PySem.W.Frag) (t : TE) : TI := fun σ H R => t σ H fun v H1 => ∃ μ d st it, StR K μ H1 st ∧ Rep K μ H1 d v ∧ itOf d st = some it ∧ ∀ J, ItOk K J it μ H1 → R J H1
theorem pi_val {t : TE} (ha : PE X xa t) : PI X tg xa (tItV X.K t) := by
  refine ⟨fun pins s σ H R I h => thn (ha.run pins s σ H _ I h) fun u s1 ⟨v, H1, I1, rv, μ, d, st, it, S, rd, e, k⟩ => ?_⟩
  have lst : ∀ {a : Addr} {vs : List V}, SqL X.K H1 a vs → R (Itl X.K a) H1 → wpAny (model X.prog X.w) X.A (pyIter (.ref a)) (PIE X pins σ tg R) X.xe s1 := fun {a vs} hq q => by
    obtain ⟨its, _, pl, _⟩ := I1.list hq
    exact wpAny_pyIter_list pl.isList (pi_one (tk := s1.toks) I1 _ (turn_list a _) ⟨_, Heap.get?_push_size _ rfl, rfl, rfl⟩ q)
  cases d with
  | tup xs =>
    obtain ⟨a, vs, its, rfl, h1, hv⟩ := rd
    cases (show u = Value.ref a from rv)
    cases (show some (⟨xs, [], false⟩ : Ev.It) = some it from e)
    obtain ⟨its2, _, pt, _⟩ := I1.tuple (a := a) (xs := vs) (.inl (.inr ⟨_, h1⟩))
    exact wpAny_pyIter_tuple (show s1.heap.IsTuple a its2.toArray from pt) (pi_one (tk := s1.toks) I1 _ (turn_tuple a _) ⟨_, Heap.get?_push_size _ rfl, rfl, rfl⟩ (k _ (it_tup h1 (RepL.iff.mp hv))))
  | str z =>
    cases (show v = .str z from rd)
    obtain ⟨tk, rfl⟩ := rv
    cases (show some (⟨z.cps.toList.map fun c => .str ⟨#[c]⟩, [], false⟩ : Ev.It) = some it from e)
    have q := k _ (it_str (K := X.K) (μ := μ) (H := H1) (z := z))
    cases hw : z.cps.all (· < 128) with
    | false => exact wpAny_pyIter_wide hw (pi_one (tk := s1.toks) I1 _ (turn_str _ z tk "str_iterator" (.inr rfl)) ⟨_, Heap.get?_push_size _ rfl, rfl, rfl⟩ q)
    | true => exact wpAny_pyIter_ascii hw (pi_one (tk := s1.toks) I1 _ (turn_str _ z tk "str_ascii_iterator" (.inl rfl)) ⟨_, Heap.get?_push_size _ rfl, rfl, rfl⟩ q)
  | rol ns =>
    obtain ⟨a, rfl, h1⟩ := rd
    cases (show u = Value.ref a from rv)
    cases (show some (⟨ns.map .int, [], false⟩ : Ev.It) = some it from e)
    exact lst h1.seq (k _ (it_rol h1))
  | ref l =>
    obtain ⟨a, ha, rfl⟩ := rd
    cases (show u = Value.ref a from rv)
    simp only [itOf] at e
    cases e1 : sget st l with
    | none => rw [e1] at e; cases e
    | some o =>
      rw [e1] at e
      cases o with
      | lst xs =>
        cases (show some (⟨xs, [(l, .lst xs)], false⟩ : Ev.It) = some it from e)
        obtain ⟨vs, h1, _⟩ := S.lst ha e1
        exact lst (.inl (.inl h1)) (k _ (it_list ha))
      | lck kvs =>
        cases (show some (⟨kvs.map (·.1), [], false⟩ : Ev.It) = some it from e)
        obtain ⟨ob, l', h1, h2⟩ := (show ∃ ob l, H1 a = some (.frz ob (.dK l)) ∧ KVR X.K μ H1 kvs l from S.at_ ha e1)
        obtain ⟨hs, hgd, hx, es, ep, vs, hdt, hsz, kv, hm⟩ := I1.frzK h1
        exact iter_keys hs hgd hx hdt (pi_one (tk := s1.toks) I1 _ (turn_keys _ hdt) ⟨_, Heap.get?_push_size _ rfl, rfl, by rw [hsz] <;> rfl⟩ (k _ (it_keys h1 h2)))
      | _ => cases e
  | _ => cases e
end
end
end Ev
end

section
set_option Elab.async false
set_option linter.all false
set_option maxRecDepth 100000
set_option maxHeartbeats 2000000
/-! Snd13: what is walked, by expressions; statements. -/
namespace Ev
open PySem PySem.Spec L2
section
variable {X : Cx} {Z : ZT} {P : List Fn} {n : Nat} {r rc : Ev} {a b c : E} {xa xb xc tg : Expr} {pos p p2 apos : Pos} {es : List Expr} {x : Str}
theorem i_val (hz : ZMono Z) (ha : PE X xa (tE X.K Z r a)) : PI X tg xa (tI X.K Z (step P n r rc) (.val a)) :=
  impI (pi_val ha) fun σ H R ⟨μ, env, st, hE, hS, h⟩ => seqE hz hE hS h fun d st1 μ1 v H1 L1 r1 S1 h1 => by
    obtain ⟨it, e, q⟩ := pst_okO h1
    exact ⟨μ1, d, st1, it, S1, r1, e, fun J hj => q μ1 J H1 L1 S1 hj⟩
theorem in62 {n : Int} (h : inR62 n = true) : -(2 ^ 62) ≤ n ∧ n < 2 ^ 62 := by
  obtain ⟨h1, h2⟩ := b_and h
  have h1 := of_decide_eq_true h1
  have h2 := of_decide_eq_true h2
  omega
theorem i_range1 (hz : ZMono Z) (hg : Gl X "range") (hm : X.mg "range" = none) (ha : PE X xa (tE X.K Z r a)) (hn : nst xa = true) : PI X tg (.Call (.Name "range" p) [xa] [] pos) (tI X.K Z (step P n r rc) (.blt .range (.cons a .nil))) :=
  impI (pi_range1 hg hm (pa_cons ha pa_nil (star_cons hn)) (star_cons hn)) fun σ H W ⟨μ, env, st, hE, hS, h⟩ => by
    have h : (((r.e a env st).bind fun x st => (match x with | .int n => if inR62 n = true then R.ok (intsFrom 0 n.toNat) st else .no | _ => .no)).bind fun xs st => R.ok (⟨xs, [], false⟩ : Ev.It) st).pst (fun it st' => PostI X.K μ H it st' W) (Z μ H) := h
    refine seqE hz hE hS (pst_bind h) fun d st1 μ1 v H1 L1 r1 S1 h1 => ?_
    cases d with
    | int j =>
      obtain ⟨hj, q⟩ := pst_ite (show (if inR62 j = true then R.ok (intsFrom 0 j.toNat) st1 else .no).pst _ _ from h1)
      obtain ⟨g1, g2⟩ := in62 hj
      have e : v = .int j := r1
      subst e
      exact ⟨j, rfl, g1, g2, (show PostI X.K μ H ⟨intsFrom 0 j.toNat, [], false⟩ st1 W from q) μ1 _ H1 L1 S1 it_rng⟩
    | _ => exact h1.elim
theorem i_range2 (hz : ZMono Z) (hg : Gl X "range") (hm : X.mg "range" = none) (ha : PE X xa (tE X.K Z r a)) (hb : PE X xb (tE X.K Z r b)) (hn : nst xa = true) (hn2 : nst xb = true) : PI X tg (.Call (.Name "range" p) [xa, xb] [] pos) (tI X.K Z (step P n r rc) (.blt .range (.cons a (.cons b .nil)))) :=
  impI (pi_range2 hg hm (pa_cons ha (pa_cons hb pa_nil (star_cons hn2)) (star_cons hn)) (by rw [star_cons hn, star_cons hn2]; rfl) (star_cons hn2)) fun σ H W ⟨μ, env, st, hE, hS, h⟩ => by
    have h : (((r.e a env st).bind fun x st => (r.e b env st).bind fun y st => (match x with | .int lo => (match y with | .int hi => if (inR62 lo && inR62 hi) = true then R.ok (intsFrom lo (hi - lo).toNat) st else .no | _ => .no) | _ => .no)).bind fun xs st => R.ok (⟨xs, [], false⟩ : Ev.It) st).pst (fun it st' => PostI X.K μ H it st' W) (Z μ H) := h
    refine seqE hz hE hS (pst_bind h) fun d st1 μ1 v H1 L1 r1 S1 h1 => seqE hz (hE.mono L1) S1 h1 fun d2 st2 μ2 v2 H2 L2 r2 S2 h2 => ?_
    cases d with
    | int i =>
      cases d2 with
      | int j =>
        obtain ⟨hj, q⟩ := pst_ite (show (if (inR62 i && inR62 j) = true then R.ok (intsFrom i (j - i).toNat) st2 else .no).pst _ _ from h2)
        obtain ⟨h5, h6⟩ := b_and hj
        obtain ⟨g1, g2⟩ := in62 h5
        obtain ⟨g3, g4⟩ := in62 h6
        have e : v = .int i := r1
        have e2 : v2 = .int j := r2
        subst e e2
        exact ⟨i, j, rfl, ⟨g1, g2, g3, g4⟩, (show PostI X.K μ H ⟨intsFrom i (j - i).toNat, [], false⟩ st2 W from q) μ2 _ H2 (L1.trans L2) S2 it_rng⟩
      | _ => exact h2.elim
    | _ => exact h2.elim
/-! ### tests -/
theorem t_val (hz : ZMono Z) (ht : tst xa = true) (ha : PE X xa (tE X.K Z r a)) : PT X xa (tT X.K Z (step P n r rc) (.val a)) :=
  impT (pt_tru ha ht) fun σ H Q ⟨μ, env, st, hE, hS, h⟩ => seqE hz hE hS h fun d st1 μ1 v H1 L1 r1 S1 h1 => by
    obtain ⟨k, e, q⟩ := pst_okO h1
    exact ⟨μ1, d, st1, k, S1, r1, e, q μ1 H1 L1 S1⟩
/-- a test whose value is a bool for sure -/
theorem t_bool (hz : ZMono Z) (ha : PT X xa (fun σ H Q => tE X.K Z r a σ H fun x H' => ∃ k, x = .bl k ∧ Q k H')) (hb : ∀ env st d st', r.e a env st = .ok d st' → ∃ k, d = .bl k) : PT X xa (tT X.K Z (step P n r rc) (.val a)) :=
  impT ha fun σ H Q ⟨μ, env, st, hE, hS, h⟩ => by
    have h : ((r.e a env st).bind fun d st => okO st (truth st d)).pst (fun d st' => PostT X.K μ H d st' Q) (Z μ H) := h
    refine ⟨μ, env, st, hE, hS, ?_⟩
    have h := pst_bind h
    cases e : r.e a env st with
    | no => rw [e] at h; exact h
    | ex x st1 => rw [e] at h; exact h
    | ok d st1 =>
      rw [e] at h
      obtain ⟨k, rfl⟩ := hb env st d st1 e
      have q : PostT X.K μ H k st1 Q := h
      exact fun μ' v H' L rv S => ⟨k, rv, q μ' H' L S⟩
theorem t_not (hz : ZMono Z) (ha : PT X xa (tT X.K Z r a)) : PT X (.UnaryOp .Not xa pos) (tT X.K Z (step P n r rc) (.not a)) :=
  impT (pt_not ha) fun σ H Q ⟨μ, env, st, hE, hS, h⟩ => seqT hz hE hS h fun k st1 μ1 H1 L1 S1 h1 => h1 μ1 H1 L1 S1
theorem t_and {rest : List Expr} (hz : ZMono Z) (ha : PT X xa (tT X.K Z r a)) (hb : PW X (.BoolOp .And (xb :: rest) pos) (tT X.K Z r b)) : PW X (.BoolOp .And (xa :: xb :: rest) pos) (tT X.K Z (step P n r rc) (.and a b)) :=
  ⟨fun wh pins s σ H Q I ⟨μ, env, st, hE, hS, h⟩ => (pw_and ha hb).run wh pins s σ H Q I (seqT hz hE hS h fun k st1 μ1 H1 L1 S1 h1 => by
    cases k with
    | true => exact ⟨μ1, env, st1, hE.mono L1, S1, pst_mono h1 (fun _ _ q μ2 H2 L2 S2 => q μ2 H2 (L1.trans L2) S2) fun _ _ z => z⟩
    | false => exact h1 μ1 H1 L1 S1)⟩
theorem t_or {rest : List Expr} (hz : ZMono Z) (ha : PT X xa (tT X.K Z r a)) (hb : PW X (.BoolOp .Or (xb :: rest) pos) (tT X.K Z r b)) : PW X (.BoolOp .Or (xa :: xb :: rest) pos) (tT X.K Z (step P n r rc) (.or a b)) :=
  ⟨fun wh pins s σ H Q I ⟨μ, env, st, hE, hS, h⟩ => (pw_or ha hb).run wh pins s σ H Q I (seqT hz hE hS h fun k st1 μ1 H1 L1 S1 h1 => by
    cases k with
    | false => exact ⟨μ1, env, st1, hE.mono L1, S1, pst_mono h1 (fun _ _ q μ2 H2 L2 S2 => q μ2 H2 (L1.trans L2) S2) fun _ _ z => z⟩
    | true => exact h1 μ1 H1 L1 S1)⟩
end
end Ev
end

section
set_option Elab.async false
set_option linter.all false
set_option maxRecDepth 100000
set_option maxHeartbeats 2000000
/-! Snd14: statements. -/
namespace Ev
open PySem PySem.Spec L2
abbrev LSt := L2.St
theorem PostS.mono {K : PySem.W.Frag} {μ μ' : List Addr} {H H' : Hp} {o : Out} {st : Sto} {D : Ends} (p : PostS K μ H o st D) (L : Le μ H μ' H') : PostS K μ' H' o st D := by
  cases o with
  | nx env => exact fun μ2 σ2 H2 L2 => p μ2 σ2 H2 (L.trans L2)
  | rt d => exact fun μ2 v H2 L2 => p μ2 v H2 (L.trans L2)
  | bk env => exact fun μ2 σ2 H2 L2 => p μ2 σ2 H2 (L.trans L2)
  | ct env => exact fun μ2 σ2 H2 L2 => p μ2 σ2 H2 (L.trans L2)
theorem pst_bind_val {α β : Type} {r : R α} {f : α → Sto → R β} {Q : β → Sto → Prop} {Z : Exn → Sto → Prop} (h : (r.val.bind f).pst Q Z) : r.val.pst (fun a st => (f a st).pst Q Z) Z := pst_bind h
/-- no comprehension -/
def ncmp : Expr → Bool
  | .ListComp .. | .SetComp .. | .DictComp .. => false
  | _ => true
section
variable {X : Cx} {Z : ZT} {P : List Fn} {n : Nat} {r rc : Ev} {a b c : E} {xa xb xc tg : Expr} {pos p p2 apos : Pos} {es : List Expr} {x : Str} {s t : S} {xs : Stmt} {ys : List Stmt}
theorem s_skip : PSs X [] (tS X.K Z (step P n r rc) .skip) := impSs pss_nil fun D σ H ⟨μ, env, st, hE, hS, h⟩ => h μ σ H .refl hE hS
theorem s_seq (hz : ZMono Z) (h1 : PS X xs (tS X.K Z r s)) (h2 : PSs X ys (tS X.K Z r t)) : PSs X (xs :: ys) (tS X.K Z (step P n r rc) (.seq s t)) :=
  impSs (pss_cons h1 h2) fun D σ H ⟨μ, env, st, hE, hS, h⟩ => ⟨μ, env, st, hE, hS, pst_mono (pst_bind h) (fun o st1 q => by
    cases o with
    | nx env1 => exact fun μ' σ' H' L hE' S' => ⟨μ', env1, st1, hE', S', pst_mono q (fun _ _ p => PostS.mono p L) fun _ _ z => hz _ _ _ _ _ _ L z⟩
    | rt d => exact q
    | bk env1 => exact q
    | ct env1 => exact q) fun _ _ z => z⟩
theorem swaps_no {v : Expr} {t : Option Expr} {l : Nat} {env : PySem.Env} (h : ncmp v = true) : swapsWith v t l env = pure false := by
  cases v <;> first | rfl | cases h
theorem s_exp (hz : ZMono Z) (ha : PE X xa (tE X.K Z r a)) (hs : ncmp xa = true) : PS X (.Expr xa pos) (tS X.K Z (step P n r rc) (.exp a)) :=
  impS (ps_expr ha (swaps_no hs)) fun D σ H ⟨μ, env, st, hE, hS, h⟩ => seqE hz hE hS h fun d st1 μ1 v H1 L1 r1 S1 h1 => h1 μ1 σ H1 L1 (hE.mono L1) S1
theorem s_ret (hz : ZMono Z) (ha : PE X xa (tE X.K Z r a)) : PS X (.Return (some xa) pos) (tS X.K Z (step P n r rc) (.ret a)) :=
  impS (ps_ret ha) fun D σ H ⟨μ, env, st, hE, hS, h⟩ => seqE hz hE hS h fun d st1 μ1 v H1 L1 r1 S1 h1 => h1 μ1 v H1 L1 r1 S1
theorem s_retn : PS X (.Return none pos) (tS X.K Z (step P n r rc) .retn) := impS ps_retN fun D σ H ⟨μ, env, st, hE, hS, h⟩ => h μ .non H .refl rfl hS
theorem s_brk : PS X (.Break pos) (tS X.K Z (step P n r rc) .brk) := impS ps_break fun D σ H ⟨μ, env, st, hE, hS, h⟩ => h μ σ H .refl hE hS
theorem s_cnt : PS X (.Continue pos) (tS X.K Z (step P n r rc) .cnt) := impS ps_continue fun D σ H ⟨μ, env, st, hE, hS, h⟩ => h μ σ H .refl hE hS
theorem s_pass : PS X (.Pass pos) (tS X.K Z (step P n r rc) .skip) := impS ps_pass fun D σ H ⟨μ, env, st, hE, hS, h⟩ => h μ σ H .refl hE hS
theorem s_nev : PS X xs (tS X.K Z (step P n r rc) .nev) := impS ps_never fun D σ H ⟨μ, env, st, hE, hS, h⟩ => h
theorem s_nevs : PSs X ys (tS X.K Z (step P n r rc) .nev) := impSs pss_never fun D σ H ⟨μ, env, st, hE, hS, h⟩ => h
theorem s_ife {as bs : List Stmt} {sa sb : S} (hz : ZMono Z) (hc : PT X xc (tT X.K Z r c)) (ha : PSs X as (tS X.K Z r sa)) (hb : PSs X bs (tS X.K Z r sb)) : PS X (.If xc as bs pos) (tS X.K Z (step P n r rc) (.ife c sa sb)) :=
  impS (ps_if hc ha hb) fun D σ H ⟨μ, env, st, hE, hS, h⟩ => seqT hz hE hS h fun k st1 μ1 H1 L1 S1 h1 => by
    cases k with
    | true => exact ⟨μ1, env, st1, hE.mono L1, S1, pst_mono h1 (fun _ _ p => PostS.mono p L1) fun _ _ z => z⟩
    | false => exact ⟨μ1, env, st1, hE.mono L1, S1, pst_mono h1 (fun _ _ p => PostS.mono p L1) fun _ _ z => z⟩
/-! ### stores -/
theorem s_asgN {i : Nat} {p' : Pos} (hz : ZMono Z) (hN : X.N.Nodup) (hi : X.N[i]? = some x) (hx : Loc X.env.scope x) (hf : X.fn x = true ∨ X.env.scope.names.lookup x = some .local) (ha : PE X xa (tE X.K Z r a)) (hs : swapsWith xa (some (.Name x p')) pos.line X.env = pure false) :
    PS X (.Assign [.Name x p'] xa pos) (tS X.K Z (step P n r rc) (.asg (.nm i) a)) :=
  impS (ps_set hN hi hx ha hs hf) fun D σ H ⟨μ, env, st, hE, hS, h⟩ => seqE hz hE hS h fun d st1 μ1 v H1 L1 r1 S1 h1 => by
    have h1 : PostS X.K μ H (.nx (env.put i d)) st1 D := h1
    exact h1 μ1 _ H1 L1 ((hE.mono L1).put r1) S1
def isTupE : Expr → Bool
  | .Tuple .. => true
  | _ => false
theorem swapped_no {ts : List Expr} {v : Expr} {env : PySem.Env} (h : isTupE v = false) : swappedStores ts v env = pure none := by
  cases v <;> first | (cases h) | skip
  all_goals (unfold swappedStores; cases ts with
    | nil => rfl
    | cons t ts => cases t <;> cases ts <;> rfl)
theorem s_asgT {T' : Ev.T} {g : Expr} (hz : ZMono Z) (hw : T'.wf = true) (hg : PG X g (gT X.K T')) (ha : PE X xa (tE X.K Z r a)) (hs : swapsWithSole [g] xa pos.line X.env = pure false) (hsw : swappedStores [g] xa X.env = pure none) (h1 : (assignEach [g] X.env).map (·.2) = [assign g X.env]) :
    PS X (.Assign [g] xa pos) (tS X.K Z (step P n r rc) (.asg T' a)) :=
  impS (ps_asg ha hg hs hsw h1) fun D σ H ⟨μ, env, st, hE, hS, h⟩ => seqE hz hE hS h fun d st1 μ1 v H1 L1 r1 S1 h1 => by
    have h1 : (match T.take T' d env with | some env => R.ok (Out.nx env) st1 | none => .no).pst (fun o st' => PostS X.K μ H o st' D) (Z μ1 H1) := h1
    cases e : T.take T' d env with
    | none => rw [e] at h1; exact h1.elim
    | some env' =>
      rw [e] at h1
      exact take_t T' d env env' hw e σ v D.nx (hE.mono L1) r1 fun σ' hE' => (show PostS X.K μ H (.nx env') st1 D from h1) μ1 σ' H1 L1 hE' S1
theorem store_ok {K : PySem.W.Frag} {μ : List Addr} {H : Hp} {dx dy dv : D} {o i v : V} {st st' : Sto} {u : Unit} (S : StR K μ H st) (r1 : Rep K μ H dx o) (r2 : Rep K μ H dy i) (r3 : Rep K μ H dv v) (h : store dx dy dv st = .ok u st') {Q : Hp → Prop}
    (k : ∀ H', Le μ H μ H' → StR K μ H' st' → Q H') : vSet K o i v H Q := ⟨μ, dx, dy, dv, st, st', u, S, r1, r2, r3, h, k⟩
theorem s_sto {xo xi : Expr} {o i : E} {p' : Pos} (hu : X.A.units + 200 < cLine) (hz : ZMono Z) (he : PE X xa (tE X.K Z r a)) (ho : PE X xo (tE X.K Z r o)) (hi : PE X xi (tE X.K Z r i))
    (has : ∀ v, assign (.Subscript xo xi p') X.env v = (do
      let ov ← holding [v] (eval xo X.env)
      let iv ← holding [v, ov] (eval xi X.env)
      standAt p'
      holding [v, ov, iv] (setItem ov iv v)
      release [v, ov, iv] []))
    (hs : swapsWithSole [.Subscript xo xi p'] xa pos.line X.env = pure false) (hsw : swappedStores [.Subscript xo xi p'] xa X.env = pure none) (h1 : (assignEach [.Subscript xo xi p'] X.env).map (·.2) = [assign (.Subscript xo xi p') X.env]) :
    PS X (.Assign [.Subscript xo xi p'] xa pos) (tS X.K Z (step P n r rc) (.sto o i a)) :=
  impS (ps_asg he (pg_sub ho hi (set_all hu) has) hs hsw h1) fun D σ H ⟨μ, env, st, hE, hS, h⟩ => seqE hz hE hS h fun d st1 μ1 v H1 L1 r1 S1 h1 => seqE hz (hE.mono L1) S1 h1 fun d2 st2 μ2 v2 H2 L2 r2 S2 h2 =>
    seqE hz ((hE.mono L1).mono L2) S2 h2 fun d3 st3 μ3 v3 H3 L3 r3 S3 h3 => by
      obtain ⟨u, st4, e, q⟩ := pst_val (pst_bind_val h3)
      exact store_ok S3 (r2.mono L3) r3 ((r1.mono L2).mono L3) e fun H4 L4 S4 => (show PostS X.K μ H (.nx env) st4 D from q) μ3 σ H4 (((L1.trans L2).trans L3).trans L4) ((((hE.mono L1).mono L2).mono L3).mono L4) S4
/-! ### x op= e -/
theorem ip_all (o : Bop) : PIp X (pyB o) (vBin X.K (iop o)) := by
  intro pins s σ H x y v u Q I rx ry ⟨μ, dx, dy, st, d, st', S, r1, r2, h, p⟩
  cases dx with
  | int i =>
    cases dy with
    | int j =>
      cases (show x = .int i from r1)
      cases (show y = .int j from r2)
      obtain ⟨t, rfl⟩ := rx
      obtain ⟨t', rfl⟩ := ry
      cases o with
      | add =>
        cases (show R.ok (D.int (i + j)) st = .ok d st' from h)
        exact PyProof.Rows.iadd_int ⟨.int _, H, I.tok _, ⟨_, rfl⟩, p.int S⟩
      | sub =>
        cases (show R.ok (D.int (i - j)) st = .ok d st' from h)
        exact PyProof.Rows.isub_int ⟨.int _, H, I.tok _, ⟨_, rfl⟩, p.int S⟩
      | mul =>
        obtain ⟨hb, h⟩ := ite_ok (show (if mulOk i j = true then R.ok (D.int (i * j)) st else R.no) = .ok d st' from h)
        cases h
        refine PyProof.Rows.imul_int ⟨.int _, H, I.tok _, ⟨_, rfl⟩, p.int S⟩ (CMul.ok ?_)
        unfold mulOk at hb
        rw [Bool.or_eq_true] at hb
        rcases hb with hb | hb
        · obtain ⟨h1, h2⟩ := b_and hb
          exact .inl ⟨of_decide_eq_true h1, of_decide_eq_true h2⟩
        · obtain ⟨h1, h2⟩ := b_and hb
          exact .inr ⟨of_decide_eq_true h1, of_decide_eq_true h2⟩
      | fdiv =>
        obtain ⟨hb, h⟩ := ite_ok (show (if (j != 0 && decide (j.natAbs < 1073741824)) = true then R.ok (D.int (i.fdiv j)) st else R.no) = .ok d st' from h)
        cases h
        obtain ⟨h1, h2⟩ := b_and hb
        exact PyProof.Rows.ifloordiv_int (by simpa using h1) ⟨.int _, H, I.tok _, ⟨_, rfl⟩, p.int S⟩ (.inl (PyProof.noPylong_small (of_decide_eq_true h2)))
      | mod =>
        obtain ⟨hb, h⟩ := ite_ok (show (if (j != 0) = true then R.ok (D.int (i.fmod j)) st else R.no) = .ok d st' from h)
        cases h
        exact PyProof.Rows.imod_int (by simpa using hb) ⟨.int _, H, I.tok _, ⟨_, rfl⟩, p.int S⟩
      | pow => cases h
    | _ => cases h
  | str a =>
    cases dy with
    | str b =>
      cases (show x = .str a from r1)
      cases (show y = .str b from r2)
      obtain ⟨t, rfl⟩ := rx
      obtain ⟨t', rfl⟩ := ry
      cases o with
      | add =>
        obtain ⟨hb, h⟩ := ite_ok (show (if small (a.length + b.length) = true then R.ok (D.str (a ++ b)) st else R.no) = .ok d st' from h)
        cases h
        exact PyProof.Rows.iadd_str (fun t' tk => ⟨.str _, H, I.tok _, ⟨_, rfl⟩, p.str S⟩) (small_iff hb)
      | _ => cases h
    | _ => cases h
  | _ => cases h
theorem s_aug {i : Nat} {o : Bop} {p' : Pos} (hz : ZMono Z) (hN : X.N.Nodup) (hi : X.N[i]? = some x) (hx : Loc X.env.scope x) (hf : X.fn x = true ∨ X.env.scope.names.lookup x = some .local) (ha : PE X xa (tE X.K Z r a)) :
    PS X (.AugAssign (.Name x p') (pyB o) xa pos) (tS X.K Z (step P n r rc) (.aug i o a)) :=
  impS (ps_aug hN hi hx ha (ip_all o) hf) fun D σ H ⟨μ, env, st, hE, hS, h⟩ => by
    have h : (match env.get i with | some x => (r.e a env st).bind fun y st => (iop o x y st).val.bind fun z st => R.ok (Out.nx (env.put i z)) st | none => .no).pst (fun o st' => PostS X.K μ H o st' D) (Z μ H) := h
    cases e : env.get i with
    | none => rw [e] at h; exact h.elim
    | some d =>
      rw [e] at h
      obtain ⟨v, h1, h2⟩ := hE.at_ i d e
      refine ⟨v, h1, seqE hz hE hS h fun d1 st1 μ1 w H1 L1 r1 S1 h3 => ?_⟩
      obtain ⟨d3, st3, e3, q⟩ := pst_val (pst_bind_val h3)
      exact ⟨μ1, d, d1, st1, d3, st3, S1, h2.mono L1, r1, e3, fun μ2 z H2 L2 r2 S2 => (show PostS X.K μ H (.nx (env.put i d3)) st3 D from q) μ2 _ H2 (L1.trans L2) (((hE.mono L1).mono L2).put r2) S2⟩
/-! ### while -/
theorem s_whl {bs : List Stmt} {sb : S} (hz : ZMono Z) (hp : PassesOwn (model X.prog X.w) X.A X.env X.xe) (hc : PT X xc (tT X.K Z r c)) (hb : PSs X bs (tS X.K Z r sb)) : PS X (.While xc bs [] pos) (tS X.K Z (step P n r rc) (.whl c sb)) :=
  impS (ps_while hp hc hb) fun D σ H ⟨μ, env, st, hE, hS, h⟩ => by
    refine ⟨fun m σ' H' => ∃ μ' env' st', Le μ H μ' H' ∧ EnvR X.K μ' H' env' σ' ∧ StR X.K μ' H' st' ∧ (whGo r c sb m env' st').pst (fun o st => PostS X.K μ H o st D) (Z μ' H'), ⟨n, μ, env, st, .refl, hE, hS, h⟩, ?_⟩
    rintro m σ1 H1 ⟨μ1, env1, st1, L1, hE1, hS1, h1⟩
    cases m with
    | zero => exact h1.elim
    | succ m =>
      have h1 : ((r.t c env1 st1).bind fun x st => if x = true then (r.s sb env1 st).bind fun o st => (match o with
        | .nx env => whGo r c sb m env st
        | .ct env => whGo r c sb m env st
        | .bk env => .ok (.nx env) st
        | .rt d => .ok (.rt d) st) else .ok (.nx env1) st).pst (fun o st => PostS X.K μ H o st D) (Z μ1 H1) := h1
      refine seqT hz hE1 hS1 h1 fun k st2 μ2 H2 L2 S2 h2 => ?_
      cases k with
      | false => exact (show PostS X.K μ H (.nx env1) st2 D from h2) μ2 σ1 H2 (L1.trans L2) (hE1.mono L2) S2
      | true =>
        refine ⟨fun σ' H' => ∃ μ' env' st', Le μ H μ' H' ∧ EnvR X.K μ' H' env' σ' ∧ StR X.K μ' H' st' ∧ (whGo r c sb m env' st').pst (fun o st => PostS X.K μ H o st D) (Z μ' H'), fun σ' H' q => ⟨m, Nat.lt_succ_self m, q⟩, μ2, env1, st2, hE1.mono L2, S2, ?_⟩
        refine pst_mono (pst_bind h2) (fun o st3 q => ?_) fun _ _ z => z
        cases o with
        | nx env3 => exact fun μ3 σ3 H3 L3 hE3 S3 => ⟨μ3, env3, st3, (L1.trans L2).trans L3, hE3, S3, pst_mono q (fun _ _ z => z) fun _ _ z => hz _ _ _ _ _ _ L3 z⟩
        | ct env3 => exact fun μ3 σ3 H3 L3 hE3 S3 => ⟨μ3, env3, st3, (L1.trans L2).trans L3, hE3, S3, pst_mono q (fun _ _ z => z) fun _ _ z => hz _ _ _ _ _ _ L3 z⟩
        | bk env3 => exact PostS.mono (show PostS X.K μ H (.nx env3) st3 D from q) (L1.trans L2)
        | rt d => exact PostS.mono (show PostS X.K μ H (.rt d) st3 D from q) (L1.trans L2)
end
/-! ### for -/
/-- a loop's state ahead of turn i, with m turns left -/
def FrW (K : PySem.W.Frag) (Z : ZT) (r : Ev) (T' : Ev.T) (sb : S) (it : Ev.It) (μ1 : List Addr) (H1 : Hp) (B : Out → Sto → Prop) (i m : Nat) (σ' : L2.St) (H' : Hp) : Prop :=
  ∃ μ' env' st' rest, Le μ1 H1 μ' H' ∧ EnvR K μ' H' env' σ' ∧ StR K μ' H' st' ∧ rest = it.items.drop i ∧ m = rest.length ∧ (frGo r T' sb it.src rest env' st').pst B (Z μ' H')
section
variable {X : Cx} {Z : ZT} {P : List Fn} {n : Nat} {r rc : Ev} {a b c : E} {xa xb xc tg : Expr} {pos p p2 apos : Pos} {es : List Expr} {x : Str} {s t : S} {xs : Stmt} {ys : List Stmt}
theorem fr_base {bs : List Stmt} {sb : S} {T' : Ev.T} (hz : ZMono Z) (hw : T'.wf = true) (hnp : T'.isNm = false ∨ ∀ env st it st', r.i a env st = .ok it st' → it.pr = false) {D : Ends} {σ : L2.St} {H : Hp} {μ : List Addr} {env : Env} {st : Sto} (hE : EnvR X.K μ H env σ) (hS : StR X.K μ H st)
    (h : ((r.i a env st).bind fun it st => frGo r T' sb it.src it.items env st).pst (fun o st' => PostS X.K μ H o st' D) (Z μ H)) : tFor (tI X.K Z r a) (gT X.K T') (tS X.K Z r sb) D σ H := by
  refine ⟨μ, env, st, hE, hS, ?_⟩
  have h := pst_bind h
  cases ei : r.i a env st with
  | no => rw [ei] at h; exact h
  | ex x st1 => rw [ei] at h; exact h
  | ok it st1 =>
    rw [ei] at h
    have hpr : T'.isNm = false ∨ it.pr = false := hnp.imp id fun q => q env st it st1 ei
    intro μ1 J H1 L1 S1 hJ
    have h : (frGo r T' sb it.src it.items env st1).pst (fun o st' => PostS X.K μ H o st' D) (Z μ H) := h
    refine ⟨FrW X.K Z r T' sb it μ1 H1 (fun o st' => PostS X.K μ H o st' D), ⟨it.items.length, μ1, env, st1, it.items, .refl, hE.mono L1, S1, by simp, rfl, pst_mono h (fun _ _ z => z) fun _ _ z => hz _ _ _ _ _ _ L1 z⟩, ?_⟩
    rintro i m σ2 H2 ⟨μ2, env2, st2, rest, L2, hE2, S2, er, em, h2⟩
    cases rest with
    | nil =>
      have hgo : (if srcOk st2 it.src = true then R.ok (Out.nx env2) st2 else .no).pst (fun o st => PostS X.K μ H o st D) (Z μ2 H2) := h2
      obtain ⟨hsrc, q⟩ := pst_ite hgo
      have hn : it.items[i]? = none := by
        rw [List.getElem?_eq_none_iff]
        exact List.drop_eq_nil_iff.mp er.symm
      exact .inl ⟨((hJ i μ2 H2 st2 L2 S2 hsrc).2 hn), (show PostS X.K μ H (.nx env2) st2 D from q) μ2 σ2 H2 (L1.trans L2) hE2 S2⟩
    | cons y ys =>
      have hy : it.items[i]? = some y := by
        have : (it.items.drop i)[0]? = some y := by rw [← er]; rfl
        simpa using this
      have hys : ys = it.items.drop (i + 1) := by
        have : (it.items.drop i).drop 1 = ys := by rw [← er]; rfl
        rw [← this, List.drop_drop]
      have hgo : (if srcOk st2 it.src = true then (match T.take T' y env2 with
        | some env' => (r.s sb env' st2).bind fun o st => (match o with
          | .nx env => frGo r T' sb it.src ys env st
          | .ct env => frGo r T' sb it.src ys env st
          | .bk env => .ok (.nx env) st
          | .rt d => .ok (.rt d) st)
        | none => .no) else .no).pst (fun o st => PostS X.K μ H o st D) (Z μ2 H2) := h2
      obtain ⟨hsrc, q⟩ := pst_ite hgo
      obtain ⟨g1, g2⟩ := (hJ i μ2 H2 st2 L2 S2 hsrc).1 y hy
      refine .inr ⟨g1, FrW X.K Z r T' sb it μ1 H1 (fun o st' => PostS X.K μ H o st' D) (i + 1) ys.length, fun σ' H' q => ⟨ys.length, by rw [em]; exact Nat.lt_succ_self _, q⟩, fun x H3 hx => ?_⟩
      have hI := g2 x H3 hx
      cases et : T.take T' y env2 with
      | none => rw [et] at q; exact q.elim
      | some env3 =>
        rw [et] at q
        have body : ∀ (μ3 : List Addr) (H3 : Hp), Le μ2 H2 μ3 H3 → StR X.K μ3 H3 st2 → ∀ σ' : LSt, EnvR X.K μ3 H3 env3 σ' →
            tS X.K Z r sb { D with nx := FrW X.K Z r T' sb it μ1 H1 (fun o st' => PostS X.K μ H o st' D) (i + 1) ys.length, ct := FrW X.K Z r T' sb it μ1 H1 (fun o st' => PostS X.K μ H o st' D) (i + 1) ys.length, bk := D.nx } σ' H3 := by
          intro μ3 H3 L3 S3 σ' hE3
          refine ⟨μ3, env3, st2, hE3, S3, pst_mono (pst_bind q) (fun o st4 q4 => ?_) fun _ _ z => hz _ _ _ _ _ _ L3 z⟩
          cases o with
          | nx env4 => exact fun μ4 σ4 H4 L4 hE4 S4 => ⟨μ4, env4, st4, ys, (L2.trans L3).trans L4, hE4, S4, hys, rfl, pst_mono q4 (fun _ _ z => z) fun _ _ z => hz _ _ _ _ _ _ (L3.trans L4) z⟩
          | ct env4 => exact fun μ4 σ4 H4 L4 hE4 S4 => ⟨μ4, env4, st4, ys, (L2.trans L3).trans L4, hE4, S4, hys, rfl, pst_mono q4 (fun _ _ z => z) fun _ _ z => hz _ _ _ _ _ _ (L3.trans L4) z⟩
          | bk env4 => exact PostS.mono (show PostS X.K μ H (.nx env4) st4 D from q4) ((L1.trans L2).trans L3)
          | rt d => exact PostS.mono (show PostS X.K μ H (.rt d) st4 D from q4) ((L1.trans L2).trans L3)
        cases hb : it.pr with
        | false =>
          rw [hb] at hI
          obtain ⟨rfl, rx⟩ := (show H3 = H2 ∧ Rep X.K μ2 H2 y x from hI)
          exact take_t T' y env2 env3 hw et σ2 x _ hE2 rx fun σ' hE3 => body μ2 H3 .refl S2 σ' hE3
        | true =>
          rw [hb] at hI
          obtain ⟨T, v, w, d1, d2, rfl, rfl, hT, rfl, r1, r2⟩ := (show ∃ T v w d1 d2, y = .tup [d1, d2] ∧ x = .ref T ∧ H2 T = none ∧ H3 = upd H2 T (.tup [v, w]) ∧ Rep X.K μ2 H2 d1 v ∧ Rep X.K μ2 H2 d2 w from hI)
          have L3 := le_new S2 hT (.tup [v, w])
          have hnm : T'.isNm = false := hpr.elim id fun z => by rw [hb] at z; cases z
          exact take_pair hw hnm et (hE2.mono L3) (.inl (.inl upd_same)) (r1.mono L3) (r2.mono L3) fun σ' hE3 => body μ2 _ L3 (S2.new hT _) σ' hE3
theorem s_fr {bs : List Stmt} {sb : S} {T' : Ev.T} (hz : ZMono Z) (hp : PassesOwn (model X.prog X.w) X.A X.env X.xe) (hc : X.calm = true) (hi : PI X tg xa (tI X.K Z r a)) (hw : T'.wf = true) (hg : PG X tg (gT X.K T')) (hb : PSs X bs (tS X.K Z r sb))
    (hs : ∀ x, foldedSetIterable xa X.env x = pure x) (hnp : T'.isNm = false ∨ ∀ env st it st', r.i a env st = .ok it st' → it.pr = false) : PS X (.For tg xa bs [] pos) (tS X.K Z (step P n r rc) (.fr T' a sb)) := by
  refine ⟨fun pins s σ H D I ⟨μ, env, st, hE, hS, h⟩ => ?_⟩
  have h : (locked (lockOf a env st) (fun st => (r.i a env st).bind fun it st => frGo r T' sb it.src it.items env st) st).pst (fun o st' => PostS X.K μ H o st' D) (Z μ H) := h
  cases el : lockOf a env st with
  | none =>
    rw [el] at h
    exact (ps_for hp hc hi hg hb hs).run pins s σ H D I (fr_base (bs := bs) hz hw hnp hE hS h)
  | some l =>
    rw [el] at h
    exact h.elim
end
end Ev
end

section
set_option Elab.async false
set_option linter.all false
set_option maxRecDepth 100000
set_option maxHeartbeats 2000000
/-! Snd15: list comprehensions. -/
namespace Ev
open PySem PySem.Spec L2
def T.slots : T → List Nat
  | .nm i => [i]
  | .nil => []
  | .cons t r => t.slots ++ r.slots
def Same (vs : List Nat) (σ σ' : LSt) : Prop := (∀ j, j ∉ vs → σ'[j]? = σ[j]?) ∧ σ'.length = σ.length
theorem Same.refl {vs : List Nat} {σ : LSt} : Same vs σ σ := ⟨fun _ _ => rfl, rfl⟩
theorem Same.trans {vs ws : List Nat} {σ σ' σ2 : LSt} (h : Same vs σ σ') (h' : Same ws σ' σ2) : Same (vs ++ ws) σ σ2 :=
  ⟨fun j hj => by
    simp only [List.mem_append, not_or] at hj
    rw [h'.1 j hj.2, h.1 j hj.1], h'.2.trans h.2⟩
mutual
theorem gT_same {K : PySem.W.Frag} : ∀ (t : T) (v : V) (σ : LSt) (H : Hp) (Q : LSt → Hp → Prop), gT K t v σ H Q → gT K t v σ H fun σ' H' => Q σ' H' ∧ Same t.slots σ σ'
  | .nm i, v, σ, H, Q, h => ⟨h, fun j hj => by
    have : i ≠ j := fun z => hj (by rw [z]; simp [T.slots])
    rw [List.getElem?_set_ne this], by simp⟩
  | .nil, v, σ, H, Q, ⟨a, xs, e, hq, hl, h⟩ => ⟨a, xs, e, hq, hl, h.1, h.2, Same.refl⟩
  | .cons t r, v, σ, H, Q, ⟨a, xs, e, hq, hl, h⟩ => ⟨a, xs, e, hq, hl, gTs_same (.cons t r) xs σ H Q h⟩
theorem gTs_same {K : PySem.W.Frag} : ∀ (t : T) (vs : List V) (σ : LSt) (H : Hp) (Q : LSt → Hp → Prop), gTs K t vs σ H Q → gTs K t vs σ H fun σ' H' => Q σ' H' ∧ Same t.slots σ σ'
  | .nm i, v, σ, H, Q, h => h.elim
  | .nil, v, σ, H, Q, ⟨e, h⟩ => ⟨e, h, Same.refl⟩
  | .cons t r, xs, σ, H, Q, ⟨v, ys, e, h⟩ => ⟨v, ys, e, gT_mono t v σ H _ _ (fun σ' H' ⟨q, s⟩ => gTs_mono r ys σ' H' _ _ (fun σ2 H2 ⟨q2, s2⟩ => ⟨q2, s.trans s2⟩) (gTs_same r ys σ' H' Q q)) (gT_same t v σ H _ h)⟩
theorem gT_mono {K : PySem.W.Frag} : ∀ (t : T) (v : V) (σ : LSt) (H : Hp) (Q Q' : LSt → Hp → Prop), (∀ σ' H', Q σ' H' → Q' σ' H') → gT K t v σ H Q → gT K t v σ H Q'
  | .nm i, v, σ, H, Q, Q', k, h => k _ _ h
  | .nil, v, σ, H, Q, Q', k, ⟨a, xs, e, hq, hl, h⟩ => ⟨a, xs, e, hq, hl, h.1, k _ _ h.2⟩
  | .cons t r, v, σ, H, Q, Q', k, ⟨a, xs, e, hq, hl, h⟩ => ⟨a, xs, e, hq, hl, gTs_mono (.cons t r) xs σ H Q Q' k h⟩
theorem gTs_mono {K : PySem.W.Frag} : ∀ (t : T) (vs : List V) (σ : LSt) (H : Hp) (Q Q' : LSt → Hp → Prop), (∀ σ' H', Q σ' H' → Q' σ' H') → gTs K t vs σ H Q → gTs K t vs σ H Q'
  | .nm i, v, σ, H, Q, Q', k, h => h.elim
  | .nil, v, σ, H, Q, Q', k, ⟨e, h⟩ => ⟨e, k _ _ h⟩
  | .cons t r, xs, σ, H, Q, Q', k, ⟨v, ys, e, h⟩ => ⟨v, ys, e, gT_mono t v σ H _ _ (fun σ' H' q => gTs_mono r ys σ' H' Q Q' k q) h⟩
end
theorem wipe_get2 {σ : LSt} {j : Nat} : ∀ {vs : List Nat}, j ∉ vs → (L2.wipe σ vs)[j]? = σ[j]?
  | [], _ => rfl
  | v :: vs, h => by
    simp only [List.mem_cons, not_or] at h
    unfold L2.wipe
    rw [List.getElem?_set_ne (Ne.symm h.1)]
    exact wipe_get2 h.2
theorem wipe_in {σ : LSt} {j : Nat} (hj : j < σ.length) : ∀ {vs : List Nat}, j ∈ vs → (L2.wipe σ vs)[j]? = some none
  | v :: vs, h => by
    unfold L2.wipe
    by_cases e : v = j
    · subst e
      rw [List.getElem?_set_self (by rw [L2.wipe_length]; exact hj)]
    · rw [List.getElem?_set_ne e]
      exact wipe_in hj ((List.mem_cons.mp h).resolve_left fun z => e z.symm)
theorem wipe_same {σ σ' : LSt} {vs : List Nat} (h : Same vs (L2.wipe σ vs) σ') : L2.wipe σ' vs = L2.wipe σ vs := by
  apply List.ext_getElem?
  intro j
  have hl : σ'.length = σ.length := by rw [h.2, L2.wipe_length]
  by_cases hj : j ∈ vs
  · by_cases hlt : j < σ.length
    · rw [wipe_in hlt hj, wipe_in (by rw [hl]; exact hlt) hj]
    · rw [List.getElem?_eq_none (by rw [L2.wipe_length, hl]; omega), List.getElem?_eq_none (by rw [L2.wipe_length]; omega)]
  · rw [wipe_get2 hj, h.1 j hj]
/-- a comprehension's state ahead of turn i, with m turns left -/
def LcW (K : PySem.W.Frag) (r : Ev) (T' : Ev.T) (c e : E) (env : Env) (it : Ev.It) (μ1 : List Addr) (H1 : Hp) (A : Addr) (B : List D → Sto → Prop) (Zc : Exn → Sto → Prop) (i m : Nat) (H' : Hp) : Prop :=
  ∃ μ' st' rest acc vs, Le μ1 H1 μ' H' ∧ StR K μ' H' st' ∧ H' A = some (.lst vs) ∧ A ∉ μ' ∧ Paired (Rep K μ' H') acc.reverse vs ∧ acc.length ≤ i ∧ rest = it.items.drop i ∧ m = rest.length ∧ (lcGo r T' c e env it.src rest acc st').pst B Zc
section
variable {X : Cx} {Z : ZT} {P : List Fn} {n : Nat} {r rc : Ev} {a b c e : E} {xa xb xc tg xe : Expr} {pos p p2 apos : Pos} {es : List Expr} {x : Str}
theorem pts_none {Xb : Cx} (hr : ∀ env st, r.t .none env st = .ok true st ∨ r.t .none env st = .no) : PTs Xb [] (tT X.K Z0 r .none) := ⟨fun pins s σ H Q I ⟨μ, env, st, hE, hS, h⟩ => by
  refine pts_nil.run pins s σ H Q I ?_
  rcases hr env st with e | e
  · rw [e] at h
    exact h μ H .refl hS
  · rw [e] at h
    exact h.elim⟩
theorem lc_base {T' : Ev.T} {vs : List Nat} (hz : ZMono Z) (hw : T'.wf = true) (hsl : ∀ j ∈ T'.slots, j ∈ vs) (hnp : T'.isNm = false ∨ ∀ env st it st', r.i a env st = .ok it st' → it.pr = false) {Q : VK} {σ : LSt} {H : Hp} {μ : List Addr} {env : Env} {st : Sto} (hE : EnvR X.K μ H env σ) (hS : StR X.K μ H st)
    (h : ((r.i a env st).bind fun it st => if small it.items.length = true then (lcGo r T' c e (env.wipe vs) it.src it.items [] st).bind fun ds st => new (.lst ds) st else .no).pst (fun d st' => Post X.K μ H d st' Q) (Z μ H)) :
    tLc (tI X.K Z r a) (gT X.K T') (tT X.K Z0 r c) (tE X.K Z0 r e) vs σ H Q := by
  refine ⟨μ, env, st, hE, hS, ?_⟩
  have h := pst_bind h
  cases ei : r.i a env st with
  | no => rw [ei] at h; exact h
  | ex x st1 => rw [ei] at h; exact h
  | ok it st1 =>
    rw [ei] at h
    have hpr : T'.isNm = false ∨ it.pr = false := hnp.imp id fun q => q env st it st1 ei
    intro μ1 J H1 L1 S1 hJ
    obtain ⟨hsm, h⟩ := pst_ite (show (if small it.items.length = true then (lcGo r T' c e (env.wipe vs) it.src it.items [] st1).bind fun ds st => new (.lst ds) st else .no).pst (fun d st' => Post X.K μ H d st' Q) (Z μ H) from h)
    have hsm := small_iff hsm
    have h := pst_bind h
    intro D hD
    have hEw : ∀ μ' H', Le μ1 H1 μ' H' → EnvR X.K μ' H' (env.wipe vs) (L2.wipe σ vs) := fun μ' H' L => ((hE.mono L1).mono L).wipe vs
    refine ⟨LcW X.K r T' c e (env.wipe vs) it μ1 H1 D (fun ds st => (new (.lst ds) st).pst (fun d st' => Post X.K μ H d st' Q) (Z μ H)) (Z μ H), ⟨it.items.length, μ1, st1, it.items, [], [], (Le.refl).out hD _, S1.new hD _, upd_same, S1.fresh hD, .nil, Nat.le_refl _, by simp, rfl, h⟩, ?_⟩
    rintro i m H2 ⟨μ2, st2, rest, acc, ws, L2', S2, hD2, nD, hacc, hal, er, em, h2⟩
    cases rest with
    | nil =>
      have hgo : (if srcOk st2 it.src = true then R.ok acc.reverse st2 else .no).pst (fun ds st => (new (.lst ds) st).pst (fun d st' => Post X.K μ H d st' Q) (Z μ H)) (Z μ H) := h2
      obtain ⟨hsrc, q⟩ := pst_ite hgo
      have hn : it.items[i]? = none := by
        rw [List.getElem?_eq_none_iff]
        exact List.drop_eq_nil_iff.mp er.symm
      refine .inl ⟨(hJ i μ2 H2 st2 L2' S2 hsrc).2 hn, ?_⟩
      have q : Post X.K μ H (.ref st2.length) (st2 ++ [.lst acc.reverse]) Q := q
      have L3 : Le μ H (μ2 ++ [D]) H2 := (L1.trans L2').add (by
        cases eh : H D with
        | none => rfl
        | some o =>
          exfalso
          by_cases hm : D ∈ μ
          · exact S1.fresh hD (L1.mem hm)
          · have := L1.kp D o eh hm
            rw [hD] at this
            cases this)
      refine q (μ2 ++ [D]) (.ref D) H2 L3 ⟨D, ?_, rfl⟩ (S2.add nD ?_)
      · rw [List.getElem?_append_right (by rw [S2.len]; exact Nat.le_refl _), S2.len, Nat.sub_self]
        rfl
      · exact ⟨ws, hD2, RepL.iff.mpr (Pr.imp hacc fun _ _ z => z.mono0 (fun l a e => by rw [List.getElem?_append_left (List.getElem?_eq_some_iff.mp e).1]; exact e) fun _ _ e _ => e)⟩
    | cons y ys =>
      have hy : it.items[i]? = some y := by
        have : (it.items.drop i)[0]? = some y := by rw [← er]; rfl
        simpa using this
      have hi : i < it.items.length := (List.getElem?_eq_some_iff.mp hy).1
      have hys : ys = it.items.drop (i + 1) := by
        have : (it.items.drop i).drop 1 = ys := by rw [← er]; rfl
        rw [← this, List.drop_drop]
      have hgo : (if srcOk st2 it.src = true then (match T.take T' y (env.wipe vs) with
        | some env' => (r.t c env' st2).val.bind fun b st => if b = true then (r.e e env' st).val.bind fun d st => lcGo r T' c e (env.wipe vs) it.src ys (d :: acc) st else lcGo r T' c e (env.wipe vs) it.src ys acc st
        | none => .no) else .no).pst (fun ds st => (new (.lst ds) st).pst (fun d st' => Post X.K μ H d st' Q) (Z μ H)) (Z μ H) := h2
      obtain ⟨hsrc, q⟩ := pst_ite hgo
      obtain ⟨g1, g2⟩ := (hJ i μ2 H2 st2 L2' S2 hsrc).1 y hy
      refine .inr ⟨g1, LcW X.K r T' c e (env.wipe vs) it μ1 H1 D (fun ds st => (new (.lst ds) st).pst (fun d st' => Post X.K μ H d st' Q) (Z μ H)) (Z μ H) (i + 1) ys.length, fun H' q => ⟨ys.length, by rw [em]; exact Nat.lt_succ_self _, q⟩, fun x H3 hx => ?_⟩
      have hI := g2 x H3 hx
      cases et : T.take T' y (env.wipe vs) with
      | none => rw [et] at q; exact q.elim
      | some env3 =>
        rw [et] at q
        have body : ∀ (μ3 : List Addr) (H3 : Hp), Le μ2 H2 μ3 H3 → StR X.K μ3 H3 st2 → ∀ σ' : LSt, EnvR X.K μ3 H3 env3 σ' →
            tT X.K Z0 r c σ' H3 fun b H3 => if b = true then tE X.K Z0 r e σ' H3 fun y H4 => ∃ acc, H4 D = some (.lst acc) ∧ acc.length < sizeLine ∧ LcW X.K r T' c e (env.wipe vs) it μ1 H1 D (fun ds st => (new (.lst ds) st).pst (fun d st' => Post X.K μ H d st' Q) (Z μ H)) (Z μ H) (i + 1) ys.length (upd H4 D (.lst (acc ++ [y])))
              else LcW X.K r T' c e (env.wipe vs) it μ1 H1 D (fun ds st => (new (.lst ds) st).pst (fun d st' => Post X.K μ H d st' Q) (Z μ H)) (Z μ H) (i + 1) ys.length H3 := by
          intro μ3 H3 L3 S3 σ' hE3
          have q := pst_bind_val (show ((r.t c env3 st2).val.bind fun b st => if b = true then (r.e e env3 st).val.bind fun d st => lcGo r T' c e (env.wipe vs) it.src ys (d :: acc) st else lcGo r T' c e (env.wipe vs) it.src ys acc st).pst _ _ from q)
          have keep : ∀ μ4 H4, Le μ3 H3 μ4 H4 → H4 D = some (.lst ws) ∧ D ∉ μ4 := fun μ4 H4 L4 => by
            have L24 := L3.trans L4
            refine ⟨L24.kp D _ hD2 nD, fun m => ?_⟩
            have := L24.nw D m nD
            rw [hD2] at this
            cases this
          refine ⟨μ3, env3, st2, hE3, S3, pst_mono (val_pst q) (fun b st4 q4 μ4 H4 L4 S4 => ?_) fun _ _ z => z⟩
          obtain ⟨hD4, nD4⟩ := keep μ4 H4 L4
          cases b with
          | false => exact ⟨μ4, st4, ys, acc, ws, (L2'.trans L3).trans L4, S4, hD4, nD4, Pr.imp hacc fun _ _ z => (z.mono L3).mono L4, by omega, hys, rfl, q4⟩
          | true =>
            have q5 := pst_bind_val (show ((r.e e env3 st4).val.bind fun d st => lcGo r T' c e (env.wipe vs) it.src ys (d :: acc) st).pst _ _ from q4)
            refine ⟨μ4, env3, st4, hE3.mono L4, S4, pst_mono (val_pst q5) (fun d st5 q6 μ5 v H5 L5 rd S5 => ?_) fun _ _ z => z⟩
            obtain ⟨hD5, nD5⟩ := keep μ5 H5 (L4.trans L5)
            have hlen := hacc.length
            rw [List.length_reverse] at hlen
            have L15 := ((L2'.trans L3).trans L4).trans L5
            refine ⟨ws, hD5, by omega, μ5, st5, ys, d :: acc, ws ++ [v], L15.out hD _, S5.out hD5 (fun z => z) nD5 _, upd_same, nD5, ?_, by simp; omega, hys, rfl, q6⟩
            have io := im_out hD5 (fun z => z) (.lst (ws ++ [v]))
            rw [List.reverse_cons]
            exact Pr.app (Pr.imp hacc fun _ _ z => (((z.mono L3).mono L4).mono L5).mono0 (fun _ _ z => z) io) (.cons (rd.mono0 (fun _ _ z => z) io) .nil)
        have wrap : ∀ {μ3 : List Addr} {H3 : Hp} {v : V}, Le μ2 H2 μ3 H3 → StR X.K μ3 H3 st2 → gT X.K T' v (L2.wipe σ vs) H3 (fun σ' H' => H' = H3 ∧ EnvR X.K μ3 H3 env3 σ') →
            gT X.K T' v (L2.wipe σ vs) H3 fun σ2 H2 => L2.wipe σ2 vs = L2.wipe σ vs ∧ tT X.K Z0 r c σ2 H2 fun b H3 => if b = true then tE X.K Z0 r e σ2 H3 fun y H4 => ∃ acc, H4 D = some (.lst acc) ∧ acc.length < sizeLine ∧ LcW X.K r T' c e (env.wipe vs) it μ1 H1 D (fun ds st => (new (.lst ds) st).pst (fun d st' => Post X.K μ H d st' Q) (Z μ H)) (Z μ H) (i + 1) ys.length (upd H4 D (.lst (acc ++ [y])))
              else LcW X.K r T' c e (env.wipe vs) it μ1 H1 D (fun ds st => (new (.lst ds) st).pst (fun d st' => Post X.K μ H d st' Q) (Z μ H)) (Z μ H) (i + 1) ys.length H3 := fun {μ3 H3 v} L3 S3 hg =>
          gT_mono T' v _ H3 _ _ (fun σ' H' ⟨⟨e1, e2⟩, sm⟩ => by
            subst e1
            exact ⟨wipe_same ⟨fun j hj => sm.1 j fun z => hj (hsl j z), sm.2⟩, body μ3 H' L3 S3 σ' e2⟩) (gT_same T' v _ H3 _ hg)
        cases hb : it.pr with
        | false =>
          rw [hb] at hI
          obtain ⟨rfl, rx⟩ := (show H3 = H2 ∧ Rep X.K μ2 H2 y x from hI)
          exact wrap .refl S2 (take_t T' y (env.wipe vs) env3 hw et _ x _ (hEw μ2 H3 L2') rx fun σ' hE3 => ⟨rfl, hE3⟩)
        | true =>
          rw [hb] at hI
          obtain ⟨T, v, w, d1, d2, rfl, rfl, hT, rfl, r1, r2⟩ := (show ∃ T v w d1 d2, y = .tup [d1, d2] ∧ x = .ref T ∧ H2 T = none ∧ H3 = upd H2 T (.tup [v, w]) ∧ Rep X.K μ2 H2 d1 v ∧ Rep X.K μ2 H2 d2 w from hI)
          have L3 := le_new S2 hT (.tup [v, w])
          have hnm : T'.isNm = false := hpr.elim id fun z => by rw [hb] at z; cases z
          exact wrap L3 (S2.new hT _) (take_pair hw hnm et ((hEw μ2 H2 L2').mono L3) (.inl (.inl upd_same)) (r1.mono L3) (r2.mono L3) fun σ' hE3 => ⟨rfl, hE3⟩)
end
end Ev
end

section
set_option Elab.async false
set_option linter.all false
set_option maxRecDepth 100000
set_option maxHeartbeats 2000000
/-! Snd16: comprehensions and calls, as expressions. -/
namespace Ev
open PySem PySem.Spec L2
section
variable {X : Cx} {Z : ZT} {P : List Fn} {n : Nat} {r rc : Ev} {a b c e : E} {xa xb xc tg xe : Expr} {pos p p2 apos : Pos} {es ifs : List Expr} {x : Str} {scope : Scope} {own : List (Str × Nat)}
theorem e_lc {T' : Ev.T} (hz : ZMono Z) (hc : X.calm = true) (hN : X.N.Nodup) (hw : T'.wf = true) (hsl : ∀ j ∈ T'.slots, j ∈ own.map (·.2)) (hnp : T'.isNm = false ∨ ∀ env st it st', r.i a env st = .ok it st' → it.pr = false)
    (hi : PI X tg xa (tI X.K Z r a)) (ok : BlkOk X.N X.env.scope scope own)
    (hg : ∀ (s : Shared) (H : Hp) (C : Addr) (cl : List (Str × Addr)) (fp : List Addr), PG (X.blk s H scope (compEnvC scope cl C X.env) fp) tg (gT X.K T'))
    (ht : ∀ (s : Shared) (H : Hp) (C : Addr) (cl : List (Str × Addr)) (fp : List Addr), PTs (X.blk s H scope (compEnvC scope cl C X.env) fp) ifs (tT X.K Z0 r c))
    (he : ∀ (s : Shared) (H : Hp) (C : Addr) (cl : List (Str × Addr)) (fp : List Addr), PE (X.blk s H scope (compEnvC scope cl C X.env) fp) xe (tE X.K Z0 r e)) (hs : ∀ x, foldedSetIterable xa X.env x = pure x) :
    PE X (.ListComp xe [⟨tg, xa, ifs, 0⟩] scope pos) (tE X.K Z (step P n r rc) (.lc (own.map (·.2)) T' a c e)) := by
  refine ⟨fun pins s σ H Q I ⟨μ, env, st, hE, hS, h⟩ => ?_⟩
  have h : (locked (lockOf a env st) (fun st => (r.i a env st).bind fun it st => if small it.items.length = true then (lcGo r T' c e (env.wipe (own.map (·.2))) it.src it.items [] st).bind fun ds st => new (.lst ds) st else .no) st).pst (fun d st' => Post X.K μ H d st' Q) (Z μ H) := h
  cases el : lockOf a env st with
  | none =>
    rw [el] at h
    exact (pe_lc hc hN hi ok hg ht he hs).run pins s σ H Q I (lc_base hz hw hsl hnp hE hS h)
  | some l =>
    rw [el] at h
    exact h.elim
theorem s_setLc {T' : Ev.T} {i : Nat} {y : Str} {py spos : Pos} (hz : ZMono Z) (hc : X.calm = true) (hN : X.N.Nodup) (hy : X.N[i]? = some y) (hyl : X.env.scope.names.lookup y = some .local) (hsw : swapsWith (.ListComp xe [⟨tg, xa, ifs, 0⟩] scope pos) (some (.Name y py)) spos.line X.env = pure true)
    (hw : T'.wf = true) (hsl : ∀ j ∈ T'.slots, j ∈ own.map (·.2)) (hnp : T'.isNm = false ∨ ∀ env st it st', r.i a env st = .ok it st' → it.pr = false)
    (hi : PI X tg xa (tI X.K Z r a)) (ok : BlkOk X.N X.env.scope scope own)
    (hg : ∀ (s : Shared) (H : Hp) (C : Addr) (cl : List (Str × Addr)) (fp : List Addr), PG (X.blk s H scope (compEnvC scope cl C X.env) fp) tg (gT X.K T'))
    (ht : ∀ (s : Shared) (H : Hp) (C : Addr) (cl : List (Str × Addr)) (fp : List Addr), PTs (X.blk s H scope (compEnvC scope cl C X.env) fp) ifs (tT X.K Z0 r c))
    (he : ∀ (s : Shared) (H : Hp) (C : Addr) (cl : List (Str × Addr)) (fp : List Addr), PE (X.blk s H scope (compEnvC scope cl C X.env) fp) xe (tE X.K Z0 r e)) (hs : ∀ x, foldedSetIterable xa X.env x = pure x) {r2 rc2 : Ev} {n2 : Nat} (hr2 : ∀ env st, r2.e (.lc (own.map (·.2)) T' a c e) env st = (step P n r rc).e (.lc (own.map (·.2)) T' a c e) env st) :
    PS X (.Assign [.Name y py] (.ListComp xe [⟨tg, xa, ifs, 0⟩] scope pos) spos) (tS X.K Z (step P n2 r2 rc2) (.asg (.nm i) (.lc (own.map (·.2)) T' a c e))) := by
  refine ⟨fun pins s σ H D I ⟨μ, env, st, hE, hS, h⟩ => ?_⟩
  have h : ((r2.e (.lc (own.map (·.2)) T' a c e) env st).bind fun d st => R.ok (Out.nx (env.put i d)) st).pst (fun o st' => PostS X.K μ H o st' D) (Z μ H) := h
  rw [hr2] at h
  have h : ((locked (lockOf a env st) (fun st => (r.i a env st).bind fun it st => if small it.items.length = true then (lcGo r T' c e (env.wipe (own.map (·.2))) it.src it.items [] st).bind fun ds st => new (.lst ds) st else .no) st).bind fun d st => R.ok (Out.nx (env.put i d)) st).pst (fun o st' => PostS X.K μ H o st' D) (Z μ H) := h
  cases el : lockOf a env st with
  | none =>
    rw [el] at h
    refine (ps_setLc hc hN hy hyl hsw hi ok hg ht he hs).run pins s σ H D I (lc_base (Q := fun x H1 => gName i x σ H1 D.nx) hz hw hsl hnp hE hS (pst_mono (pst_bind h) (fun d st' q => ?_) fun _ _ z => z))
    exact fun μ' v H' L rv S => (show PostS X.K μ H (.nx (env.put i d)) st' D from q) μ' _ H' L ((hE.mono L).put rv) S
  | some l =>
    rw [el] at h
    exact h.elim
/-! ### calls -/
/-- what a def's call promises -/
def spF (K : PySem.W.Frag) (P : List Fn) (rc : Ev) (i : Nat) : Sp := fun vs H Q _ => (∃ f, nth P i = some f ∧ vs.length = f.ps) ∧ ∃ μ ds st, StR K μ H st ∧ RepL K μ H ds vs ∧ (callF P rc i ds st).pst (fun d st' => Post K μ H d st' Q) (Z0 μ H)
theorem e_call {i k : Nat} {f : Addr} {fd : FuncData} {ps : List Str} (F : FnOk X.prog X.w X.K X.mg X.base CX0 k f fd ps (spF X.K P rc i)) (hr : Room k X.A) (hg : Gl X x) (hm : X.mg x = some (.ref f)) (hk : PySem.W.keepIn X.K (.ref f) = true) (hb : Binds X.K fd ps [])
    {fn : Fn} (hfn : nth P i = some fn) (ha : PA X (xa :: es) (tEs X.K Z0 r a)) (hs : nsts (xa :: es) = true) (hd : (x == ("__debug__" : Str)) = false) : PE X (.Call (.Name x p) (xa :: es) [] pos) (tE X.K Z0 (step P n r rc) (.call i a)) := by
  obtain ⟨n1, n2⟩ := b_and hs
  refine impE (pe_call (dvs := []) (E := E0) F hr hg hm hk hb .nil pass0 ha hd (star_cons n1) (star_any n2)) fun σ H Q ⟨μ, env, st, hE, hS, h⟩ => ?_
  refine seqA z0_mono hE hS h fun ds st1 μ1 vs H1 L1 r1 S1 h1 => ?_
  show spF X.K P rc i (vs ++ []) H1 Q E0
  rw [List.append_nil]
  have hlen : vs.length = fn.ps := by
    have h1 : (callF P rc i ds st1).pst _ _ := h1
    unfold callF at h1
    rw [hfn] at h1
    rw [← (RepL.iff.mp r1).length]
    obtain ⟨g, _⟩ := pst_ite (show (if (ds.length == fn.ps) = true then _ else R.no).pst _ _ from h1)
    exact eq_of_beq g
  exact ⟨⟨fn, hfn, hlen⟩, μ1, ds, st1, S1, r1, pst_mono h1 (fun _ _ p => p.mono L1) fun _ _ z => z⟩
theorem e_call0 {i k : Nat} {f : Addr} {fd : FuncData} {ps : List Str} (F : FnOk X.prog X.w X.K X.mg X.base CX0 k f fd ps (spF X.K P rc i)) (hr : Room k X.A) (hg : Gl X x) (hm : X.mg x = some (.ref f)) (hk : PySem.W.keepIn X.K (.ref f) = true) (hb : Binds X.K fd ps [])
    {fn : Fn} (hfn : nth P i = some fn) (hnil : ∀ env st, r.es .nil env st = .ok [] st ∨ r.es .nil env st = .no) (hd : (x == ("__debug__" : Str)) = false) : PE X (.Call (.Name x p) [] [] pos) (tE X.K Z0 (step P n r rc) (.call i .nil)) := by
  refine impE (pe_call0 (dvs := []) (E := E0) F hr hg hm hk hb .nil pass0 hd) fun σ H Q ⟨μ, env, st, hE, hS, h⟩ => ?_
  have h : ((r.es .nil env st).bind fun ds st => callF P rc i ds st).pst (fun d st' => Post X.K μ H d st' Q) (Z0 μ H) := h
  rcases hnil env st with e | e
  · rw [e] at h
    have h : (callF P rc i [] st).pst (fun d st' => Post X.K μ H d st' Q) (Z0 μ H) := h
    have hlen : 0 = fn.ps := by
      have h1 := h
      unfold callF at h1
      rw [hfn] at h1
      obtain ⟨g, _⟩ := pst_ite (show (if (([] : List D).length == fn.ps) = true then _ else R.no).pst _ _ from h1)
      exact eq_of_beq g
    exact ⟨⟨fn, hfn, hlen⟩, μ, [], st, hS, rfl, h⟩
  · rw [e] at h
    exact h.elim
end
/-! ### what is left of a call -/
section
variable {K : PySem.W.Frag} {μ μ0 μ2 : List Addr} {H H0 H' : Hp} {st : Sto}
mutual
theorem low_rep {n : Nat} (hp : ∀ (l : Nat) (a : Addr), l < n → μ[l]? = some a → μ2[l]? = some a) : ∀ {d : D} {v : V}, D.low n d = true → Rep K μ H d v → Rep K μ2 H d v
  | .non, _, _, h => h
  | .bl _, _, _, h => h
  | .int _, _, _, h => h
  | .str _, _, _, h => h
  | .tup ds, _, hl, h => by
    obtain ⟨a, vs, its, e, ha, r⟩ := h
    exact ⟨a, vs, its, e, ha, low_repL hp (show D.lowL n ds = true from hl) r⟩
  | .ref l, _, hl, h => by
    obtain ⟨a, h1, e⟩ := h
    exact ⟨a, hp l a (of_decide_eq_true (show decide (l < n) = true from hl)) h1, e⟩
  | .fn _, _, _, h => h
  | .rol ns, _, _, h => h
theorem low_repL {n : Nat} (hp : ∀ (l : Nat) (a : Addr), l < n → μ[l]? = some a → μ2[l]? = some a) : ∀ {ds : List D} {vs : List V}, D.lowL n ds = true → RepL K μ H ds vs → RepL K μ2 H ds vs
  | [], _, _, h => h
  | d :: ds, _, hl, h => by
    obtain ⟨h1, h2⟩ := b_and (show (D.low n d && D.lowL n ds) = true from hl)
    obtain ⟨v, r, e, r1, r2⟩ := h
    exact ⟨v, r, e, low_rep hp h1 r1, low_repL hp h2 r2⟩
end
theorem low_kvr {n : Nat} (hp : ∀ (l : Nat) (a : Addr), l < n → μ[l]? = some a → μ2[l]? = some a) : ∀ {kvs : List (D × D)} {l : List (Key × V)}, pairBelow n kvs = true → KVR K μ H kvs l → KVR K μ2 H kvs l
  | _, _, _, .nil => .nil
  | p :: kvs, q :: l, h, .cons r t => by
    obtain ⟨h1, h2⟩ := b_and (show (D.low n p.1 && D.low n p.2 && pairBelow n kvs) = true from h)
    obtain ⟨h3, h4⟩ := b_and h1
    exact .cons ⟨r.1, low_rep hp h4 r.2⟩ (low_kvr hp h2 t)
theorem low_obj {n : Nat} (hp : ∀ (l : Nat) (a : Addr), l < n → μ[l]? = some a → μ2[l]? = some a) {a : Addr} {o : O} (h : O.low n o = true) (r : ObjR K μ H a o) : ObjR K μ2 H a o := by
  cases o with
  | lst ds =>
    obtain ⟨vs, g, r⟩ := r
    exact ⟨vs, g, low_repL hp h r⟩
  | dct kvs =>
    obtain ⟨l, g, r⟩ := r
    exact ⟨l, g, low_kvr hp h r⟩
  | lck kvs =>
    obtain ⟨ob, l, g, r⟩ := r
    exact ⟨ob, l, g, low_kvr hp h r⟩
  | set _ => exact r
  | ins _ _ => exact r
theorem below_get {n : Nat} : ∀ {st : Sto} {i : Nat} {o : O}, stBelow n st = true → st[i]? = some o → O.low n o = true
  | [], _, _, _, e => by simp at e
  | x :: r, 0, o, h, e => by
    simp at e
    subst e
    exact (b_and (show (O.low n x && stBelow n r) = true from h)).1
  | x :: r, i + 1, o, h, e => below_get (b_and (show (O.low n x && stBelow n r) = true from h)).2 (by simpa using e)
theorem fin_ok {n : Nat} {d d' : D} {st st' : Sto} {v : V} (h : fin n d st = .ok d' st') (L : Le μ0 H0 μ H) (hn : μ0.length = n) (S : StR K μ H st) (r : Rep K μ H d v) : ∃ μ2, Le μ0 H0 μ2 H ∧ Rep K μ2 H d' v ∧ StR K μ2 H st' := by
  have same : ∀ {d' : D} {st' : Sto}, R.ok d st = R.ok d' st' → ∃ μ2, Le μ0 H0 μ2 H ∧ Rep K μ2 H d' v ∧ StR K μ2 H st' := fun e => by
    cases e
    exact ⟨μ, L, r, S⟩
  have tk : ∀ (l : Nat) (a : Addr), l < n → μ[l]? = some a → (μ.take n)[l]? = some a := fun l a hl e => by
    rw [List.getElem?_take_of_lt hl]
    exact e
  have Lt : Le μ0 H0 (μ.take n) H := ⟨fun l a e => tk l a (by rw [← hn]; exact (List.getElem?_eq_some_iff.mp e).1) (L.pre l a e), L.kp, L.im, fun a m q => L.nw a (List.mem_of_mem_take m) q⟩
  have St : stBelow n (st.take n) = true → StR K (μ.take n) H (st.take n) := fun hb =>
    ⟨by rw [List.length_take, List.length_take, S.len], S.nd.sublist (List.take_sublist _ _), fun l a o e1 e2 => by
      have hl : l < n := by
        have := (List.getElem?_eq_some_iff.mp e1).1
        rw [List.length_take] at this
        omega
      have e1' := e1
      have e2' := e2
      rw [List.getElem?_take_of_lt hl] at e1' e2'
      exact low_obj tk (below_get hb e2) (S.ob l a o e1' e2')⟩
  unfold fin at h
  by_cases h1 : Nat.ble (slen st) n = true
  · rw [if_pos h1] at h
    exact same h
  · rw [if_neg h1] at h
    by_cases h2 : stBelow n (st.take n) = true
    · rw [if_pos h2] at h
      by_cases h3 : D.low n d = true
      · rw [if_pos h3] at h
        cases h
        exact ⟨μ.take n, Lt, low_rep tk h3 r, St h2⟩
      · rw [if_neg h3] at h
        cases d with
        | ref l =>
          have h : (match sget st l with | some o => if O.low n o = true then R.ok (D.ref n) (st.take n ++ [o]) else R.ok (D.ref l) st | none => R.no) = .ok d' st' := h
          cases e : sget st l with
          | none => rw [e] at h; cases h
          | some o =>
            rw [e] at h
            by_cases h4 : O.low n o = true
            · rw [show (match some o with | some o => if O.low n o = true then R.ok (D.ref n) (st.take n ++ [o]) else R.ok (D.ref l) st | none => R.no) = (if O.low n o = true then R.ok (D.ref n) (st.take n ++ [o]) else R.ok (D.ref l) st) from rfl, if_pos h4] at h
              cases h
              obtain ⟨a, ha, rfl⟩ := r
              have hln : n ≤ l := by
                have : ¬ l < n := fun z => h3 (decide_eq_true z)
                omega
              have hlt : l < μ.length := (List.getElem?_eq_some_iff.mp ha).1
              have hna : a ∉ μ.take n := fun m => by
                obtain ⟨i, hi⟩ := List.getElem?_of_mem m
                have hil : i < n := by
                  have := (List.getElem?_eq_some_iff.mp hi).1
                  rw [List.length_take] at this
                  omega
                rw [List.getElem?_take_of_lt hil] at hi
                have := nodup_ix' S.nd hi ha
                omega
              have hnone : H0 a = none := by
                refine L.nw a (List.mem_of_getElem? ha) fun m => ?_
                obtain ⟨i, hi⟩ := List.getElem?_of_mem m
                have hil : i < n := by rw [← hn]; exact (List.getElem?_eq_some_iff.mp hi).1
                have := nodup_ix' S.nd (L.pre i a hi) ha
                omega
              refine ⟨μ.take n ++ [a], Lt.add hnone, ⟨a, ?_, rfl⟩, (St h2).add hna ?_⟩
              · have : (μ.take n).length = n := by rw [List.length_take]; omega
                rw [List.getElem?_append_right (by omega), this, Nat.sub_self]
                rfl
              · refine low_obj (fun l' a' hl' e' => ?_) h4 (S.at_ ha e)
                rw [List.getElem?_append_left (by rw [List.length_take]; omega)]
                exact tk l' a' hl' e'
            · rw [show (match some o with | some o => if O.low n o = true then R.ok (D.ref n) (st.take n ++ [o]) else R.ok (D.ref l) st | none => R.no) = (if O.low n o = true then R.ok (D.ref n) (st.take n ++ [o]) else R.ok (D.ref l) st) from rfl, if_neg h4] at h
              exact same h
        | _ => exact same h
    · rw [if_neg h2] at h
      exact same h
mutual
theorem up_rep {n : Nat} (hn : μ.length = n) : ∀ {d : D} {v : V}, Rep K μ2 H d v → Rep K (μ ++ μ2) H (D.up n d) v
  | .non, _, h => h
  | .bl _, _, h => h
  | .int _, _, h => h
  | .str _, _, h => h
  | .tup ds, _, h => by
    obtain ⟨a, vs, its, e, ha, r⟩ := h
    exact ⟨a, vs, its, e, ha, up_repL hn r⟩
  | .ref l, _, h => by
    obtain ⟨a, h1, e⟩ := h
    refine ⟨a, ?_, e⟩
    rw [List.getElem?_append_right (by omega), show l + n - μ.length = l by omega]
    exact h1
  | .fn _, _, h => h
  | .rol ns, _, h => h
theorem up_repL {n : Nat} (hn : μ.length = n) : ∀ {ds : List D} {vs : List V}, RepL K μ2 H ds vs → RepL K (μ ++ μ2) H (D.upL n ds) vs
  | [], _, h => h
  | d :: ds, _, h => by
    obtain ⟨v, r, e, r1, r2⟩ := h
    exact ⟨v, r, e, up_rep hn r1, up_repL hn r2⟩
end
theorem up_kD {n : Nat} (k : Key) : D.up n (kD k) = kD k := by cases k <;> rfl
theorem up_kvr {n : Nat} (hn : μ.length = n) : ∀ {kvs : List (D × D)} {l : List (Key × V)}, KVR K μ2 H kvs l → KVR K (μ ++ μ2) H (kvs.map fun p => (D.up n p.1, D.up n p.2)) l
  | _, _, .nil => .nil
  | p :: kvs, q :: l, .cons r t => .cons ⟨by show D.up n p.1 = _; rw [r.1, up_kD], up_rep hn r.2⟩ (up_kvr hn t)
theorem up_obj {n : Nat} (hn : μ.length = n) {a : Addr} {o : O} (r : ObjR K μ2 H a o) : ObjR K (μ ++ μ2) H a (O.up n o) := by
  cases o with
  | lst ds =>
    obtain ⟨vs, g, r⟩ := r
    exact ⟨vs, g, up_repL hn r⟩
  | dct kvs =>
    obtain ⟨l, g, r⟩ := r
    exact ⟨l, g, up_kvr hn r⟩
  | lck kvs =>
    obtain ⟨ob, l, g, r⟩ := r
    exact ⟨ob, l, g, up_kvr hn r⟩
  | set _ => exact r.elim
  | ins _ _ => exact r.elim
/-- a call over an empty store, seen from the caller's -/
theorem lay_ok {d d' : D} {st1 st' : Sto} {v : V} (h : lay d st1 st = .ok d' st') (L : Le [] H μ2 H') (S : StR K μ H st) (S2 : StR K μ2 H' st1) (r : Rep K μ2 H' d v) : ∃ μ3, Le μ H μ3 H' ∧ Rep K μ3 H' d' v ∧ StR K μ3 H' st' := by
  have kp : ∀ a o, H a = some o → H' a = some o := fun a o e => L.kp a o e (by simp)
  have L0 : Le μ H μ H' := ⟨fun _ _ e => e, fun a o e _ => kp a o e, fun a o e _ => kp a o e, fun a m n => absurd m n⟩
  have S0 : StR K μ H' st := ⟨S.len, S.nd, fun l a o e1 e2 => by
    have q := S.ob l a o e1 e2
    obtain ⟨ho, e⟩ := q.isHo
    exact q.mono L0 (by rw [kp a ho e, e])⟩
  have no : ∀ a, a ∈ μ2 → a ∉ μ := fun a m1 m2 => by
    have e1 := L.nw a m1 (by simp)
    obtain ⟨ho, e2⟩ := S.isHo m2
    rw [e1] at e2
    cases e2
  have hn : slen st = μ.length := by rw [slen_eq, S.len]
  unfold lay at h
  cases st1 with
  | nil =>
    cases h
    have : μ2 = [] := List.length_eq_zero_iff.mp S2.len
    subst this
    exact ⟨μ, L0, r.mono0 (fun l a e => by simp at e) (fun _ _ e _ => e), S0⟩
  | cons o rs =>
    have all : R.ok (D.up (slen st) d) (st ++ (o :: rs).map (O.up (slen st))) = R.ok d' st' → ∃ μ3, Le μ H μ3 H' ∧ Rep K μ3 H' d' v ∧ StR K μ3 H' st' := fun e => by
      cases e
      refine ⟨μ ++ μ2, ⟨fun l a e => by rw [List.getElem?_append_left (List.getElem?_eq_some_iff.mp e).1]; exact e, fun a o e _ => kp a o e, fun a o e _ => kp a o e, fun a m n => ?_⟩, up_rep hn.symm r, ?_⟩
      · exact L.nw a ((List.mem_append.mp m).resolve_left n) (by simp)
      · refine ⟨by rw [List.length_append, List.length_append, List.length_map, S.len, S2.len], ?_, fun l a x e1 e2 => ?_⟩
        · rw [List.nodup_append]
          exact ⟨S.nd, S2.nd, fun a ha b hb z => no b hb (z ▸ ha)⟩
        · by_cases hl : l < μ.length
          · rw [List.getElem?_append_left hl] at e1
            rw [List.getElem?_append_left (by rw [← S.len]; exact hl)] at e2
            exact (S0.ob l a x e1 e2).mono0 (fun l a e => by rw [List.getElem?_append_left (List.getElem?_eq_some_iff.mp e).1]; exact e) (fun _ _ e _ => e) rfl
          · rw [List.getElem?_append_right (by omega)] at e1
            rw [List.getElem?_append_right (by rw [← S.len]; omega), List.getElem?_map, ← S.len] at e2
            cases e3 : (o :: rs)[l - μ.length]? with
            | none => rw [e3] at e2; cases e2
            | some y =>
              rw [e3] at e2
              cases e2
              exact up_obj hn.symm (S2.ob _ a y e1 e3)
    have h : (if (rs.isEmpty && O.low 0 o && D.isRef d) = true then R.ok (D.ref (slen st)) (st ++ [o]) else R.ok (D.up (slen st) d) (st ++ (o :: rs).map (O.up (slen st)))) = .ok d' st' := h
    by_cases hc : (rs.isEmpty && O.low 0 o && D.isRef d) = true
    · rw [if_pos hc] at h
      cases h
      obtain ⟨hc1, hc2⟩ := b_and hc
      obtain ⟨hc3, hc4⟩ := b_and hc1
      have hrs : rs = [] := List.isEmpty_iff.mp hc3
      subst hrs
      cases d with
      | ref l =>
        obtain ⟨a, ha, rfl⟩ := r
        have hl2 : μ2.length = 1 := S2.len
        have hl : l = 0 := by
          have := (List.getElem?_eq_some_iff.mp ha).1
          omega
        subst hl
        have hm : a ∈ μ2 := List.mem_of_getElem? ha
        refine ⟨μ ++ [a], L0.add (L.nw a hm (by simp)), ⟨a, ?_, rfl⟩, S0.add (no a hm) (low_obj (fun l a hl => by omega) hc4 (S2.ob 0 a o ha rfl))⟩
        rw [hn, List.getElem?_append_right (Nat.le_refl _), Nat.sub_self]
        rfl
      | _ => cases hc2
    · rw [if_neg hc] at h
      exact all h
end
end Ev
end

section
set_option Elab.async false
set_option linter.all false
set_option maxRecDepth 100000
set_option maxHeartbeats 4000000
/-! Snd17: the check of a text against its reading. -/
namespace Ev
open PySem PySem.Spec L2
/-- names by place, the scope that runs, a block's own scope, the defs -/
structure Ctx where
  N : List Str
  sc : Scope
  osc : Option Scope
  fs : List Str
  cs : List (Str × D)
def Ctx.blk (C : Ctx) (scope : Scope) : Ctx := { C with sc := relS scope C.sc, osc := some scope }
def visB (C : Ctx) (i : Nat) (x : Str) : Bool := decide (C.N[i]? = some x) && (match C.sc.names.lookup x with | some .local => true | some .cell => true | some .free => true | _ => false) && !(x == ("__debug__" : Str)) && !(x == ("__classdict__" : Str))
def locB (C : Ctx) (i : Nat) (x : Str) : Bool := decide (C.N[i]? = some x) && (match C.sc.names.lookup x with
  | some .local => true
  | some .cell => (match C.osc with | none => true | some s => decide (s.names.lookup x = some .cell))
  | _ => false)
def glB (C : Ctx) (x : Str) : Bool := match C.sc.names.lookup x with | some .globalImplicit => true | _ => false
def isComp : Expr → Bool
  | .Set .. => true
  | _ => false
def noSlice : Expr → Bool
  | .Slice .. => false
  | _ => true
def ownOf (C : Ctx) (vs : List Nat) : List (Str × Nat) := vs.map fun i => ((C.N[i]?).getD Str.empty, i)
def isStrC : E → Bool
  | .cst d => (match d with | .str _ => true | _ => false)
  | _ => false
def isCmpE : E → Bool
  | .cmp .. => true
  | .cmp2 .. => true
  | _ => false
/-- an iterator of pairs just made -/
def prB : E → Bool
  | .blt b _ => (match b with | .enumerate => true | .zip => true | _ => false)
  | .mth m _ _ => (match m with | .items => true | _ => false)
  | _ => false
mutual
def chkG : T → Ctx → Expr → Bool
  | .nm i, C, x => (match x with | .Name y _ => locB C i y | _ => false)
  | .nil, C, x => (match x with | .Tuple es _ _ => (match es with | [] => true | _ :: _ => false) | _ => false)
  | .cons t r, C, x => (match x with | .Tuple es _ _ => (match es with | [] => false | e :: es => nst e && chkG t C e && chkGs r C es) | _ => false)
def chkGs : T → Ctx → List Expr → Bool
  | .nm _, _, _ => false
  | .nil, _, es => (match es with | [] => true | _ :: _ => false)
  | .cons t r, C, es => (match es with | [] => false | e :: es => nst e && chkG t C e && chkGs r C es)
end
mutual
def chkE : E → Ctx → Expr → Bool
  | .var i, C, x => (match x with | .Name y _ => visB C i y | _ => false)
  | .cst d, C, x => (match x with | .Constant k _ _ => cstOk d k | _ => false)
  | .glb y d, C, x => (match x with | .Name z _ => decide (y = z) && glB C z && !(z == ("__debug__" : Str)) && C.cs.any fun p => decide (p.1 = z) && D.beq p.2 d | _ => false)
  | .bin o a b, C, x => (match x with
    | .BinOp l op r _ => decide (op = pyB o) && chkE a C l && (chkE b C r || (isStrC a && chkK b C r))
    | _ => false)
  | .neg a, C, x => (match x with | .UnaryOp op v _ => decide (op = .USub) && chkE a C v | _ => false)
  | .cmp o a b, C, x => (match x with
    | .Compare l ops rs _ => (match ops with
      | [] => false
      | op :: ops => (match ops with
        | _ :: _ => false
        | [] => (match rs with
          | [] => false
          | r :: rs => (match rs with | _ :: _ => false | [] => decide (op = pyC o) && chkE a C l && chkE b C r && !behindInMarks (pyC o) r))))
    | _ => false)
  | .cmp2 o p a b c, C, x => (match x with
    | .Compare l ops rs _ => (match ops with
      | op :: op2 :: ops => (match ops with
        | _ :: _ => false
        | [] => (match rs with
          | r :: r2 :: rs => (match rs with | _ :: _ => false | [] => decide (op = pyC o) && decide (op2 = pyC p) && chkE a C l && chkE b C r && chkE c C r2 && !lastMarks [pyC o, pyC p] [r, r2])
          | _ => false))
      | _ => false)
    | _ => false)
  | .and a b, C, x => (match x with
    | .BoolOp op vs p => decide (op = .And) && (match vs with
      | y :: z :: rest => chkE a C y && (match rest with | [] => chkE b C z | _ :: _ => chkE b C (.BoolOp .And (z :: rest) p))
      | _ => false)
    | _ => false)
  | .or a b, C, x => (match x with
    | .BoolOp op vs p => decide (op = .Or) && (match vs with
      | y :: z :: rest => chkE a C y && (match rest with | [] => chkE b C z | _ :: _ => chkE b C (.BoolOp .Or (z :: rest) p))
      | _ => false)
    | _ => false)
  | .not a, C, x => (match x with | .UnaryOp op v _ => decide (op = .Not) && chkE a C v | _ => false)
  | .ifx c a b, C, x => (match x with | .IfExp t v w _ => chkT c C t && chkE a C v && chkE b C w | _ => false)
  | .tup es, C, x => (match x with | .Tuple xs _ _ => chkEs es C xs | _ => false)
  | .lst es, C, x => (match x with | .List xs _ => chkEs es C xs | _ => false)
  | .idx a i, C, x => (match x with | .Subscript v s _ => chkE a C v && chkE i C s && noSlice s | _ => false)
  | .slc a lo hi, C, x => (match x with
    | .Subscript v s _ => (match s with
      | .Slice l h st _ => (match st with
        | none => chkE a C v && (match l with | none => (match lo with | .none => true | _ => false) | some y => chkE lo C y) && (match h with | none => (match hi with | .none => true | _ => false) | some y => chkE hi C y)
        | some _ => false)
      | _ => false)
    | _ => false)
  | .rev a, C, x => (match x with
    | .Subscript v s _ => (match s with
      | .Slice l h st _ => (match l with
        | none => (match h with
          | none => (match st with
            | some y => (match y with
              | .UnaryOp op k _ => (match k with | .Constant z _ _ => decide (op = .USub) && decide (z = .int 1) && chkE a C v | _ => false)
              | _ => false)
            | none => false)
          | some _ => false)
        | some _ => false)
      | _ => false)
    | _ => false)
  | .call i es, C, x => (match x with
    | .Call f args kws _ => (match f with
      | .Name y _ => (match kws with
        | [] => decide (C.fs[i]? = some y) && glB C y && !(y == ("__debug__" : Str)) && chkEs es C args && nsts args
        | _ :: _ => false)
      | _ => false)
    | _ => false)
  | .blt b es, C, x => (match x with
    | .Call f args kws _ => (match f with
      | .Name y _ => (match kws with
        | [] => decide (y = bltN b) && glB C y && ((bltF b).isSome || (bltT b).isSome) && (match asRng (oneE es) with | none => true | some _ => false) && chkEs es C args && nsts args && (match args with | [] => false | _ :: _ => true)
        | _ :: _ => false)
      | _ => false)
    | _ => false)
  | .mth m o es, C, x => (match x with
    | .Call f args kws p => (match f with
      | .Attribute v y ap => (match kws with
        | [] => decide (y = mthN m) && chkE o C v && chkEs es C args && nsts args && nsup v && (ap.endLine == p.line) && Nat.blt args.length 29
        | _ :: _ => false)
      | _ => false)
    | _ => false)
  | .isi t e, C, x => (match x with
    | .Call f args kws _ => (match f with
      | .Name y _ => (match kws with
        | [] => (match args with
          | v :: w :: rest => (match rest with
            | [] => (match w with | .Name z _ => decide (y = "isinstance") && decide (z = Str.ofString (tyN t)) && glB C y && glB C z && chkE e C v && nst v | _ => false)
            | _ :: _ => false)
          | _ => false)
        | _ :: _ => false)
      | _ => false)
    | _ => false)
  | .lc vs t it c e, C, x => (match x with
    | .ListComp elt gens scope _ => (match gens with
      | g :: rest => (match rest with
        | [] => (match g with
          | ⟨tg, iter, ifs, asy⟩ => decide (asy = 0) && blkC C.N C.sc scope (ownOf C vs) && t.wf && (t.slots.all fun j => decide (j ∈ vs)) && chkG t (C.blk scope) tg && chkI it C iter && !isComp iter && (!prB it || !t.isNm) &&
            (match ifs with | [] => (match c with | .none => true | _ => false) | i :: is => (match is with | [] => chkT c (C.blk scope) i | _ :: _ => false)) && chkE e (C.blk scope) elt)
        | _ :: _ => false)
      | [] => false)
    | _ => false)
  | _, _, _ => false
/-- what wants a token given out -/
def chkK : E → Ctx → Expr → Bool
  | .rpl a y z, C, x => (match x with
    | .Call f args kws p => (match f with
      | .Attribute v nm ap => (match kws with
        | [] => (match args with
          | k1 :: k2 :: rest => (match rest with
            | [] => (match k1 with
              | .Constant c1 _ _ => (match k2 with
                | .Constant c2 _ _ => decide (nm = "replace") && decide (c1 = .str y) && decide (c2 = .str z) && !(y == z) && nsup v && (ap.endLine == p.line) && (chkE a C v || chkK a C v)
                | _ => false)
              | _ => false)
            | _ :: _ => false)
          | _ => false)
        | _ :: _ => false)
      | _ => false)
    | _ => false)
  | _, _, _ => false
def chkEs : E → Ctx → List Expr → Bool
  | .nil, _, xs => (match xs with | [] => true | _ :: _ => false)
  | .cons e r, C, xs => (match xs with | [] => false | x :: xs => nst x && chkE e C x && chkEs r C xs)
  | _, _, _ => false
def chkT : E → Ctx → Expr → Bool
  | .and a b, C, x => (match x with
    | .BoolOp op vs p => decide (op = .And) && (match vs with
      | y :: z :: rest => chkT a C y && (match rest with | [] => chkT b C z | _ :: _ => chkT b C (.BoolOp .And (z :: rest) p))
      | _ => false)
    | _ => false)
  | .or a b, C, x => (match x with
    | .BoolOp op vs p => decide (op = .Or) && (match vs with
      | y :: z :: rest => chkT a C y && (match rest with | [] => chkT b C z | _ :: _ => chkT b C (.BoolOp .Or (z :: rest) p))
      | _ => false)
    | _ => false)
  | .not a, C, x => (match x with | .UnaryOp op v _ => decide (op = .Not) && chkT a C v | _ => false)
  | .val e, C, x => chkE e C x && (tst x || isCmpE e)
  | _, _, _ => false
def chkI : E → Ctx → Expr → Bool
  | .blt b es, C, x => (match b with
    | .range => (match x with
      | .Call f args kws _ => (match f with
        | .Name y _ => (match kws with
          | [] => decide (y = "range") && glB C y && chkEs es C args && (match es with | .cons _ q => (match q with | .nil => true | .cons _ q' => (match q' with | .nil => true | _ => false) | _ => false) | _ => false)
          | _ :: _ => false)
        | _ => false)
      | _ => false)
    | _ => false)
  | .val e, C, x => chkE e C x
  | _, _, _ => false
end
/-- name = [..] on one line -/
def swB (C : Ctx) (y : Str) (py : Pos) (x : Expr) : Bool := match x with
  | .ListComp _ _ scope pos => decide (C.sc.names.lookup y = some .local) && (py.line == pos.line) && !(scope.names.any fun (n, k) => n == y && (k == .local || k == .cell))
  | _ => false
def parOk (C : Ctx) (i j : Nat) (x y : Str) (px py : Pos) (a b : Expr) : Bool :=
  decide (C.N[i]? = some x) && decide (C.N[j]? = some y) && decide (i ≠ j) && decide (C.sc.names.lookup x = some .local) && decide (C.sc.names.lookup y = some .local) && decide (x ≠ y) && (py.line == px.line) && nst a && nst b &&
    !(foldedForSure 8 a && foldedForSure 8 b) && !(constantsAlone 8 a && constantsAlone 8 b)
mutual
def chkS : S → Ctx → Stmt → Bool
  | .exp e, C, x => (match x with | .Expr v _ => chkE e C v && ncmp v | _ => false)
  | .ret e, C, x => (match x with | .Return o _ => (match o with | some v => chkE e C v | none => false) | _ => false)
  | .retn, _, x => (match x with | .Return o _ => (match o with | some _ => false | none => true) | _ => false)
  | .brk, _, x => (match x with | .Break _ => true | _ => false)
  | .cnt, _, x => (match x with | .Continue _ => true | _ => false)
  | .skip, _, x => (match x with | .Pass _ => true | _ => false)
  | .asg t e, C, x => (match x with
    | .Assign tgs v p => (match tgs with
      | tg :: rest => (match rest with
        | [] => (match t with
          | .nm i => (match tg with | .Name y py => locB C i y && chkE e C v && (match v with | .ListComp .. => true | _ => ncmp v) | _ => false)
          | _ => t.wf && chkG t C tg && nst tg && chkE e C v && ncmp v && !isTupE v)
        | _ :: _ => false)
      | [] => false)
    | _ => false)
  | .sto o i e, C, x => (match x with
    | .Assign tgs v _ => (match tgs with
      | tg :: rest => (match rest with
        | [] => (match tg with
          | .Subscript xo xi _ => chkE e C v && chkE o C xo && chkE i C xi && noSlice xi && ncmp v && !isTupE v
          | _ => false)
        | _ :: _ => false)
      | [] => false)
    | _ => false)
  | .aug i o e, C, x => (match x with
    | .AugAssign tg op v _ => (match tg with | .Name y _ => locB C i y && decide (op = pyB o) && chkE e C v | _ => false)
    | _ => false)
  | .par i j a b, C, x => (match x with
    | .Assign tgs v _ => (match tgs with
      | tg :: rest => (match rest with
        | [] => (match tg with
          | .Tuple ts _ _ => (match ts with
            | t1 :: t2 :: tr => (match tr with
              | [] => (match t1 with
                | .Name y py => (match t2 with
                  | .Name z pz => (match v with
                    | .Tuple vs _ _ => (match vs with
                      | v1 :: v2 :: vr => (match vr with | [] => parOk C i j y z py pz v1 v2 && chkE a C v1 && chkE b C v2 | _ :: _ => false)
                      | _ => false)
                    | _ => false)
                  | _ => false)
                | _ => false)
              | _ :: _ => false)
            | _ => false)
          | _ => false)
        | _ :: _ => false)
      | [] => false)
    | _ => false)
  | .ife c a b, C, x => (match x with | .If t u w _ => chkT c C t && chkSs a C u && chkSs b C w | _ => false)
  | .whl c b, C, x => (match x with | .While t u w _ => (match w with | [] => chkT c C t && chkSs b C u | _ :: _ => false) | _ => false)
  | .fr t it b, C, x => (match x with
    | .For tg iter u w _ => (match w with | [] => t.wf && chkG t C tg && chkI it C iter && !isComp iter && (!prB it || !t.isNm) && chkSs b C u | _ :: _ => false)
    | _ => false)
  | .nev, _, _ => true
  | _, _, _ => false
def chkSs : S → Ctx → List Stmt → Bool
  | .skip, _, xs => (match xs with | [] => true | _ :: _ => false)
  | .seq a b, C, xs => (match xs with | [] => false | x :: xs => chkS a C x && chkSs b C xs)
  | .nev, _, _ => true
  | _, _, _ => false
end
end Ev
end

section
set_option Elab.async false
set_option linter.all false
set_option maxRecDepth 100000
set_option maxHeartbeats 4000000
/-! Snd18: the check is right. -/
namespace Ev
open PySem PySem.Spec L2
/-- what stands among the built-ins -/
def isBlt : Blt → Bool
  | .factorial | .gcd | .lcm => false
  | _ => true
/-- a def of the text stands as the reading says -/
def DefOk (prog : Program) (w : World) (K : PySem.W.Frag) (mg : Str → Option Value) (fs : List Str) (cs : List (Str × D)) (i : Nat) (fn : Fn) : Prop :=
  ∃ (x : Str) (f : Addr) (fd : FuncData) (ps N : List Str) (nm qual : Str) (params : Arguments) (body : List Stmt) (scope : Scope), fs[i]? = some x ∧ mg x = some (.ref f) ∧ FunD K nm qual params body scope [] [] f fd ∧ Binds K fd ps [] ∧ FnScope N ps scope ∧ ps.length = fn.ps ∧ N.length = fn.ns ∧ chkSs fn.body ⟨N, scope, none, fs, cs⟩ body = true
structure PrgOk (prog : Program) (w : World) (K : PySem.W.Frag) (mg : Str → Option Value) (P : List Fn) (fs : List Str) (cs : List (Str × D)) : Prop where
  len : fs.length = P.length
  defs : ∀ i fn, nth P i = some fn → DefOk prog w K mg fs cs i fn
  con : ∀ p, p ∈ cs → ∃ v u, mg p.1 = some u ∧ RelV v u ∧ ∀ μ H, Rep K μ H p.2 v
  blt : ∀ b, isBlt b = true → mg (bltN b) = none
  isi : mg "isinstance" = none
  ty : ∀ t, mg (Str.ofString (tyN t)) = none
structure CtxOk (P : List Fn) (c : Nat) (C : Ctx) (X : Cx) : Prop where
  N : X.N = C.N
  nd : C.N.Nodup
  sc : X.env.scope = C.sc
  kd : C.sc.kind = .function
  calm : X.calm = true
  fn : ∀ x, (match C.osc with | none => true | some s => decide (s.names.lookup x = some .cell)) = true → X.fn x = true
  room : Room c X.A
  pr : PrgOk X.prog X.w X.K X.mg P C.fs C.cs
  po : PassesOwn (model X.prog X.w) X.A X.env X.xe
section
variable {P : List Fn} {c : Nat} {C : Ctx} {X : Cx}
theorem CtxOk.hu (k : CtxOk P c C X) : X.A.units + 200 < cLine := by
  have := k.room.un
  omega
theorem vis_ok (k : CtxOk P c C X) {i : Nat} {x : Str} (h : visB C i x = true) : X.N[i]? = some x ∧ Vis X.env.scope x ∧ (x == ("__debug__" : Str)) = false ∧ (x == ("__classdict__" : Str)) = false := by
  obtain ⟨h, h4⟩ := b_and h
  obtain ⟨h, h3⟩ := b_and h
  obtain ⟨h1, h2⟩ := b_and h
  refine ⟨by rw [k.N]; exact of_decide_eq_true h1, ?_, by simpa using h3, by simpa using h4⟩
  rw [k.sc]
  unfold Vis
  cases e : C.sc.names.lookup x with
  | none => rw [e] at h2; cases h2
  | some q =>
    rw [e] at h2
    cases q with
    | «local» => exact .inl rfl
    | cell => exact .inr (.inl rfl)
    | free => exact .inr (.inr rfl)
    | _ => cases h2
theorem loc_ok (k : CtxOk P c C X) {i : Nat} {x : Str} (h : locB C i x = true) : X.N[i]? = some x ∧ L2.Loc X.env.scope x ∧ (X.fn x = true ∨ X.env.scope.names.lookup x = some .local) := by
  obtain ⟨h1, h2⟩ := b_and h
  refine ⟨by rw [k.N]; exact of_decide_eq_true h1, ?_⟩
  rw [k.sc]
  unfold L2.Loc
  cases e : C.sc.names.lookup x with
  | none => rw [e] at h2; cases h2
  | some q =>
    rw [e] at h2
    cases q with
    | «local» => exact ⟨.inl rfl, .inr rfl⟩
    | cell =>
      refine ⟨.inr rfl, .inl (k.fn x ?_)⟩
      cases e2 : C.osc with
      | none => rfl
      | some s => rw [e2] at h2; exact h2
    | _ => cases h2
theorem gl_ok (k : CtxOk P c C X) {x : Str} (h : glB C x = true) : Gl X x := by
  unfold glB at h
  show X.env.scope.names.lookup x = some .globalImplicit
  rw [k.sc]
  cases e : C.sc.names.lookup x with
  | none => rw [e] at h; cases h
  | some q =>
    rw [e] at h
    cases q <;> first | rfl | cases h
/-! ### targets -/
theorem asg_cons {e : Expr} {es : List Expr} {env : PySem.Env} (h : nst e = true) : assignEach (e :: es) env = (false, assign e env) :: assignEach es env := by
  cases e <;> first | rfl | cases h
theorem asg_len {env : PySem.Env} : ∀ {t : T} {es : List Expr}, chkGs t C es = true → (assignEach es env).length = t.len ∧ (assignEach es env).findIdx? (·.1) = none
  | .nm _, _, h => by cases h
  | .nil, es, h => by
    cases es with
    | nil => exact ⟨rfl, rfl⟩
    | cons _ _ => cases h
  | .cons t r, es, h => by
    cases es with
    | nil => cases h
    | cons e es =>
      obtain ⟨h, h3⟩ := b_and (show (nst e && chkG t C e && chkGs r C es) = true from h)
      obtain ⟨h1, h2⟩ := b_and h
      obtain ⟨g1, g2⟩ := asg_len (env := env) h3
      rw [asg_cons h1]
      refine ⟨by rw [List.length_cons, g1]; rfl, ?_⟩
      rw [List.findIdx?_cons]
      simp [g2]
mutual
theorem g_ok (k : CtxOk P c C X) : ∀ (t : T) (x : Expr), chkG t C x = true → PG X x (gT X.K t)
  | .nm i, x, h => by
    cases x <;> first | (exact absurd h Bool.false_ne_true) | skip
    rename_i y p
    obtain ⟨h1, h2, h3⟩ := loc_ok k (show locB C i y = true from h)
    exact pg_name (by rw [k.N]; exact k.nd) h1 h2 h3
  | .nil, x, h => by
    cases x <;> first | (exact absurd h Bool.false_ne_true) | skip
    rename_i es kk p
    cases es with
    | nil => exact pg_tup k.calm pgs_nil
    | cons _ _ => cases h
  | .cons t r, x, h => by
    cases x <;> first | (exact absurd h Bool.false_ne_true) | skip
    rename_i es kk p
    have h : chkGs (.cons t r) C es = true := h
    obtain ⟨g1, g2⟩ := asg_len (env := X.env) h
    exact pg_tup k.calm (gs_ok k (.cons t r) es h) g1 g2
theorem gs_ok (k : CtxOk P c C X) : ∀ (t : T) (xs : List Expr), chkGs t C xs = true → PGs X xs (gTs X.K t)
  | .nm i, x, h => by cases h
  | .nil, xs, h => by
    cases xs with
    | nil => exact pgs_nil
    | cons _ _ => cases h
  | .cons t r, xs, h => by
    cases xs with
    | nil => cases h
    | cons e es =>
      obtain ⟨h, h3⟩ := b_and (show (nst e && chkG t C e && chkGs r C es) = true from h)
      obtain ⟨h1, h2⟩ := b_and h
      exact pgs_cons (g_ok k t e h2) (gs_ok k r es h3) (by rw [asg_cons h1]; rfl)
end
/-! ### a block's context -/
theorem CtxOk.blk (k : CtxOk P c C X) {scope : Scope} (hk : scope.kind = .function) (s : Shared) (H : Hp) (A : Addr) (cl : List (Str × Addr)) (fp : List Addr) : CtxOk P c (C.blk scope) (X.blk s H scope (compEnvC scope cl A X.env) fp) where
  N := k.N
  nd := k.nd
  sc := by
    show relS scope X.env.scope = relS scope C.sc
    rw [k.sc]
  kd := hk
  calm := k.calm
  fn := fun x h => by
    show (scope.names.lookup x == some .cell) = true
    rw [of_decide_eq_true (show decide (scope.names.lookup x = some .cell) = true from h)]
    rfl
  room := k.room
  pr := k.pr
  po := PassesOwn.never
end
end Ev
end

section
set_option Elab.async false
set_option linter.all false
set_option maxRecDepth 100000
set_option maxHeartbeats 8000000
/-! Snd19: the runner is right. -/
namespace Ev
open PySem PySem.Spec L2
structure Sound (P : List Fn) (n c : Nat) (C : Ctx) (X : Cx) : Prop where
  e : ∀ e x, chkE e C x = true → PE X x (tE X.K Z0 (ev P n c) e)
  k : ∀ e x, chkK e C x = true → PET X x (tE X.K Z0 (ev P n c) e)
  es : ∀ e xs, chkEs e C xs = true → PA X xs (tEs X.K Z0 (ev P n c) e)
  t : ∀ e x, chkT e C x = true → PT X x (tT X.K Z0 (ev P n c) e)
  i : ∀ e x, chkI e C x = true → ∀ tg, (prB e = true → ∃ es k p, tg = .Tuple es k p) → PI X tg x (tI X.K Z0 (ev P n c) e)
  s : ∀ s x, chkS s C x = true → PS X x (tS X.K Z0 (ev P n c) s)
  ss : ∀ s xs, chkSs s C xs = true → PSs X xs (tS X.K Z0 (ev P n c) s)
theorem not_b {b : Bool} (h : (!b) = true) : b = false := by simpa using h
theorem sound0 {P : List Fn} {c : Nat} {C : Ctx} {X : Cx} : Sound P 0 c C X where
  e := fun e x _ => ⟨fun pins s σ H Q I ⟨μ, env, st, hE, hS, h⟩ => h.elim⟩
  k := fun e x _ pins s σ H Q h0 I ⟨μ, env, st, hE, hS, h⟩ => h.elim
  es := fun e x _ => ⟨fun pos pins s σ H Q I ⟨μ, env, st, hE, hS, h⟩ => h.elim⟩
  t := fun e x _ => ⟨fun pins s σ H Q I ⟨μ, env, st, hE, hS, h⟩ => h.elim⟩
  i := fun e x _ tg _ => ⟨fun pins s σ H Q I ⟨μ, env, st, hE, hS, h⟩ => h.elim⟩
  s := fun s x _ => ⟨fun pins s σ H D I ⟨μ, env, st, hE, hS, h⟩ => h.elim⟩
  ss := fun s x _ => ⟨fun pins s σ H D I ⟨μ, env, st, hE, hS, h⟩ => h.elim⟩
/-- where calls go -/
def callee (P : List Fn) (n c : Nat) : Ev := match c with | 0 => Ev.none | c + 1 => ev P n c
theorem ev_succ (P : List Fn) (n c : Nat) : ev P (n + 1) c = step P n (ev P n c) (callee P n c) := by
  cases c <;> rfl
theorem pw_of {X : Cx} {op : BoolOp} {vs : List Expr} {pos : Pos} {t : TT} (h : PT X (.BoolOp op vs pos) t) : PW X (.BoolOp op vs pos) t := ⟨fun wh pins s σ H Q I q => h.run pins s σ H Q I q⟩
theorem new_len : ∀ (n : Nat) (ds : List D), (Env.new n ds).length = n
  | 0, _ => rfl
  | n + 1, [] => by show (Env.new n []).length + 1 = n + 1; rw [new_len n []]
  | n + 1, d :: ds => by show (Env.new n ds).length + 1 = n + 1; rw [new_len n ds]
theorem new_get : ∀ (n : Nat) (ds : List D) (i : Nat) (d : D), (Env.new n ds).get i = some d → ds[i]? = some d
  | 0, _, _, _, h => by cases h
  | n + 1, [], 0, _, h => by cases h
  | n + 1, [], i + 1, d, h => by
    have := new_get n [] i d h
    simp at this
  | n + 1, x :: ds, 0, d, h => by
    cases (show some x = some d from h)
    rfl
  | n + 1, x :: ds, i + 1, d, h => by
    have := new_get n ds i d h
    simpa using this
theorem env_new {K : PySem.W.Frag} {μ : List Addr} {H : Hp} {N : List Str} {ds : List D} {vs : List V} {n : Nat} (r : RepL K μ H ds vs) (hn : N.length = n) (hl : vs.length ≤ N.length) : EnvR K μ H (Env.new n ds) (L2.start N vs) := by
  refine ⟨?_, fun i d e => ?_⟩
  · rw [new_len]
    unfold L2.start
    rw [List.length_append, List.length_map, List.length_replicate]
    omega
  · obtain ⟨v, h1, h2⟩ := Pr.get (RepL.iff.mp r) (new_get _ _ _ _ e)
    refine ⟨v, ?_, h2⟩
    have hi := (List.getElem?_eq_some_iff.mp h1).1
    unfold L2.start
    rw [List.getElem?_append_left (by rw [List.length_map]; exact hi), List.getElem?_map, h1]
    rfl
theorem callF_eq {P : List Fn} {rc : Ev} {i : Nat} {fn : Fn} (hi : nth P i = some fn) (ds : List D) (st : Sto) : callF P rc i ds st = if (ds.length == fn.ps) = true then
      (if D.lowL 0 ds = true then (match (body rc fn.body (Env.new fn.ns ds) []).bind (fin 0) with
          | .ok d st1 => lay d st1 st
          | .ex x _ => if D.lowL 0 x.fs = true then .ex x st else .no
          | .no => .no)
        else (body rc fn.body (Env.new fn.ns ds) st).bind (fin (slen st)))
    else .no := by
  unfold callF
  rw [hi]
  all_goals rfl
/-- a body's end -/
theorem body_post {K : PySem.W.Frag} {rc : Ev} {b : S} {env : Env} {st : Sto} {μ : List Addr} {H : Hp} {Q : VK} {B : D → Sto → Prop} {Zc : Exn → Sto → Prop} (h : (body rc b env st).pst B Zc) (k : ∀ d st1, B d st1 → ∀ μ' v H', Le μ H μ' H' → Rep K μ' H' d v → StR K μ' H' st1 → Q v H') (hz : ∀ x st, Zc x st → False) :
    (rc.s b env st).pst (fun o st' => PostS K μ H o st' { nx := fun _ H' => Q .non H', rt := Q }) (Z0 μ H) := by
  unfold body at h
  refine pst_mono (pst_bind h) (fun o st1 q => ?_) fun x st z => hz x st z
  cases o with
  | nx env1 => exact fun μ' σ' H' L hE' S' => k .non st1 q μ' .non H' L rfl S'
  | rt d => exact fun μ' v H' L r S' => k d st1 q μ' v H' L r S'
  | bk _ => exact q.elim
  | ct _ => exact q.elim
theorem body_ok {K : PySem.W.Frag} {P : List Fn} {rc : Ev} {i : Nat} {fn : Fn} {N : List Str} {vs : List V} {H : Hp} {Q : VK} {E : XK} (hi : nth P i = some fn) (hns : N.length = fn.ns) (hl : fn.ps ≤ N.length) (h : spF K P rc i vs H Q E) :
    tS K Z0 rc fn.body { nx := fun _ H' => Q .non H', rt := Q } (L2.start N vs) H := by
  obtain ⟨⟨f', hf, hlen⟩, μ, ds, st, S, rl, h⟩ := h
  rw [hi] at hf
  cases hf
  rw [callF_eq hi] at h
  obtain ⟨_, h⟩ := pst_ite h
  by_cases hlow : D.lowL 0 ds = true
  · rw [if_pos hlow] at h
    refine ⟨[], Env.new fn.ns ds, [], env_new (low_repL (fun l a hl => by omega) hlow rl) hns (by omega), ⟨rfl, List.nodup_nil, fun l a o e => by simp at e⟩, ?_⟩
    refine body_post (Zc := fun _ _ => False) (B := fun d st1 => ∃ d2 st2 d3 st3, fin 0 d st1 = .ok d2 st2 ∧ lay d2 st2 st = .ok d3 st3 ∧ Post K μ H d3 st3 Q) ?_ ?_ fun _ _ z => z
    · cases eb : body rc fn.body (Env.new fn.ns ds) [] with
      | no => rw [eb] at h; exact h
      | ex x st1 =>
        rw [eb] at h
        have h : (if D.lowL 0 x.fs = true then R.ex x st else .no).pst (fun d st' => Post K μ H d st' Q) (Z0 μ H) := h
        exact (pst_ite h).2
      | ok d st1 =>
        rw [eb] at h
        show ∃ d2 st2 d3 st3, fin 0 d st1 = .ok d2 st2 ∧ lay d2 st2 st = .ok d3 st3 ∧ Post K μ H d3 st3 Q
        have h : (match fin 0 d st1 with | .ok d st1 => lay d st1 st | .ex x _ => if D.lowL 0 x.fs = true then R.ex x st else .no | .no => .no).pst (fun d st' => Post K μ H d st' Q) (Z0 μ H) := h
        cases ef : fin 0 d st1 with
        | no => rw [ef] at h; exact h.elim
        | ex x st2 =>
          rw [ef] at h
          exact (pst_ite (show (if D.lowL 0 x.fs = true then R.ex x st else .no).pst (fun d st' => Post K μ H d st' Q) (Z0 μ H) from h)).2.elim
        | ok d2 st2 =>
          rw [ef] at h
          have h : (lay d2 st2 st).pst (fun d st' => Post K μ H d st' Q) (Z0 μ H) := h
          cases el : lay d2 st2 st with
          | no => rw [el] at h; exact h.elim
          | ex x st3 => rw [el] at h; exact h.elim
          | ok d3 st3 => rw [el] at h; exact ⟨d2, st2, d3, st3, rfl, el, h⟩
    · rintro d st1 ⟨d2, st2, d3, st3, ef, el, p⟩ μ' v H' L r S'
      obtain ⟨μ2, L2, r2, S2⟩ := fin_ok ef L rfl S' r
      obtain ⟨μ3, L3, r3, S3⟩ := lay_ok el L2 S S2 r2
      exact p μ3 v H' L3 r3 S3
  · rw [if_neg hlow] at h
    refine ⟨μ, Env.new fn.ns ds, st, env_new rl hns (by omega), S, ?_⟩
    refine body_post (Zc := fun _ _ => False) (B := fun d st1 => ∃ d2 st2, fin (slen st) d st1 = .ok d2 st2 ∧ Post K μ H d2 st2 Q) ?_ ?_ fun _ _ z => z
    · refine pst_mono (pst_bind h) (fun d st1 q => ?_) fun _ _ z => z
      cases ef : fin (slen st) d st1 with
      | no => rw [ef] at q; exact q.elim
      | ex x st2 => rw [ef] at q; exact q.elim
      | ok d2 st2 => rw [ef] at q; exact ⟨d2, st2, rfl, q⟩
    · rintro d st1 ⟨d2, st2, ef, p⟩ μ' v H' L r S'
      obtain ⟨μ2, L2, r2, S2⟩ := fin_ok ef L (by rw [slen_eq, S.len]) S' r
      exact p μ2 v H' L2 r2 S2
section
variable {P : List Fn} {n c : Nat} {C : Ctx} {X : Cx}
theorem ok_bind {α β : Type} {r : R α} {f : α → Sto → R β} {x : β} {st : Sto} (h : r.bind f = .ok x st) : ∃ y st1, f y st1 = .ok x st := by
  cases r with
  | no => cases h
  | ex _ _ => cases h
  | ok y st1 => exact ⟨y, st1, h⟩
theorem itOf_pr {d : D} {st : Sto} {it : Ev.It} (h : itOf d st = some it) : it.pr = false := by
  cases d with
  | tup _ => cases h; rfl
  | str _ => cases h; rfl
  | rol _ => cases h; rfl
  | ref l =>
    simp only [itOf] at h
    cases e : sget st l with
    | none => rw [e] at h; cases h
    | some o =>
      rw [e] at h
      cases o <;> first | (cases h; rfl) | cases h
  | _ => cases h
theorem pr_ok {a : E} (h : prB a = false) : ∀ env st it st', (ev P n c).i a env st = .ok it st' → it.pr = false := by
  intro env st it st' e
  cases n with
  | zero => cases e
  | succ n =>
    rw [ev_succ] at e
    cases a <;> first | (cases e; done) | skip
    · rename_i a
      obtain ⟨d, st1, e⟩ := ok_bind (show ((ev P n c).e a env st).bind (fun d st => okO st (itOf d st)) = .ok it st' from e)
      cases e2 : itOf d st1 with
      | none => rw [e2] at e; cases e
      | some it2 =>
        rw [e2] at e
        cases e
        exact itOf_pr e2
    · rename_i b es
      cases b <;> first | (exact absurd (show true = false from h) (by decide)) | (cases e; done) | skip
      obtain ⟨xs, st1, e⟩ := ok_bind (show (rngR (ev P n c).e es env st).bind (fun xs st => R.ok (⟨xs, [], false⟩ : Ev.It) st) = .ok it st' from e)
      cases e
      rfl
    · rename_i m o es
      cases m <;> first | (exact absurd (show true = false from h) (by decide)) | (cases e; done) | skip
      cases es <;> first | (cases e; done) | skip
      obtain ⟨d, st1, e⟩ := ok_bind (show ((ev P n c).e o env st).bind (fun x st => (match x with | .ref l => (match sget st l with | some (.lck kvs) => R.ok (⟨kvs.map (fun (p : D × D) => p.2), [], false⟩ : Ev.It) st | _ => .no) | _ => .no)) = .ok it st' from e)
      cases d with
      | ref l =>
        have e : (match sget st1 l with | some (.lck kvs) => R.ok (⟨kvs.map (fun (p : D × D) => p.2), [], false⟩ : Ev.It) st1 | _ => .no) = .ok it st' := e
        cases e2 : sget st1 l with
        | none => rw [e2] at e; cases e
        | some o =>
          rw [e2] at e
          cases o <;> first | (cases e; rfl) | cases e
      | _ => cases e
/-- a def's promise -/
theorem def_ok {i : Nat} {fn : Fn} {fs : List Str} {cs : List (Str × D)} {prog : Program} {w : World} {K : PySem.W.Frag} {mg : Str → Option Value} {base : Heap} (pr : PrgOk prog w K mg P fs cs) (hi : nth P i = some fn)
    (ih : ∀ c', c = c' + 1 → ∀ (C : Ctx) (X : Cx), CtxOk P c' C X → Sound P n c' C X) :
    ∃ (x : Str) (f : Addr) (fd : FuncData) (ps : List Str), fs[i]? = some x ∧ mg x = some (.ref f) ∧ PySem.W.keepIn K (.ref f) = true ∧ Binds K fd ps [] ∧ FnOk prog w K mg base CX0 c f fd ps (spF K P (callee P n c) i) := by
  obtain ⟨x, f, fd, ps, N, nm, qual, params, body, scope, h1, h2, F, hb, S, hps, hns, hck⟩ := pr.defs i fn hi
  refine ⟨x, f, fd, ps, h1, h2, F.kp, hb, ?_⟩
  have len : ∀ (vs : List V) (H : Hp) (Q : VK) (E : XK), spF K P (callee P n c) i vs H Q E → vs.length = ps.length := fun vs H Q E ⟨⟨f', hf, hl⟩, _⟩ => by
    rw [hi] at hf
    cases hf
    rw [hl, hps]
  cases c with
  | zero =>
    have no : ∀ (vs : List V) (H : Hp) (Q : VK) (E : XK), ¬ spF K P (callee P n 0) i vs H Q E := fun vs H Q E ⟨_, μ, ds, st, S, rl, h⟩ => by
      rw [show callee P n 0 = Ev.none from rfl, callF_eq hi] at h
      obtain ⟨_, h⟩ := pst_ite h
      by_cases hlow : D.lowL 0 ds = true
      · rw [if_pos hlow] at h
        exact h.elim
      · rw [if_neg hlow] at h
        exact h.elim
    exact ⟨len, fun A outer s H args us vs Q E hr he hb hv hs => absurd hs (no vs H Q E)⟩
  | succ c' =>
    refine F.ok S len fun cdv A outer s H vs Q E hr hsp => ?_
    have k : CtxOk P c' ⟨N, scope, none, fs, cs⟩ (cxOf CX0 prog w K mg base N qual scope f cdv A outer s H E) := ⟨rfl, S.nd, rfl, S.kind, rfl, fun _ _ => rfl, hr, pr, PassesOwn.leaving⟩
    have hpl : ps.length ≤ N.length := by
      have := congrArg List.length S.pre
      rw [List.length_take] at this
      omega
    exact ⟨tS K Z0 (ev P n c') fn.body, (ih c' rfl _ _ k).ss fn.body body hck, body_ok hi hns (by omega) hsp⟩
end
end Ev
end

section
set_option Elab.async false
set_option linter.all false
set_option maxRecDepth 100000
set_option maxHeartbeats 16000000
/-! Snd20: the runner is right: expressions. -/
namespace Ev
open PySem PySem.Spec L2
section
variable {P : List Fn} {n c : Nat} {C : Ctx} {X : Cx}
theorem nd (k : CtxOk P c C X) : X.N.Nodup := by
  rw [k.N]
  exact k.nd
theorem comp_set {x : Expr} (h : isComp x = false) : ∀ (env : PySem.Env) (v : Value), foldedSetIterable x env v = pure v := by
  intro env v
  cases x <;> first | rfl | cases h
theorem sl_plain {x : Expr} (h : noSlice x = true) : PlainIx x := by
  intro o i
  cases x <;> first | rfl | cases h
theorem own_map (C : Ctx) (vs : List Nat) : (ownOf C vs).map (·.2) = vs := by
  unfold ownOf
  rw [List.map_map]
  exact List.map_id vs
/-- a built-in's name here -/
theorem opt_cases {α : Type} {o : Option α} : o.isSome = true ∨ o.isSome = false := by cases o <;> simp
/-- all that a comprehension asks -/
theorem lc_parts (k : CtxOk P c C X) (sd : ∀ (C : Ctx) (X : Cx), CtxOk P c C X → Sound P n c C X) {vs : List Nat} {t : T} {it cc e : E} {tg iter elt : Expr} {ifs : List Expr} {scope : Scope} (hok : blkC C.N C.sc scope (ownOf C vs) = true) (hw : t.wf = true) (hsl : (t.slots.all fun j => decide (j ∈ vs)) = true)
    (hg : chkG t (C.blk scope) tg = true) (hi : chkI it C iter = true) (hc : isComp iter = false) (hp : (!prB it || !t.isNm) = true)
    (hf : (match ifs with | [] => (match cc with | .none => true | _ => false) | i :: is => (match is with | [] => chkT cc (C.blk scope) i | _ :: _ => false)) = true) (he : chkE e (C.blk scope) elt = true) :
    BlkOk X.N X.env.scope scope (ownOf C vs) ∧ (∀ j ∈ t.slots, j ∈ (ownOf C vs).map (·.2)) ∧ (t.isNm = false ∨ ∀ env st it' st', (ev P n c).i it env st = .ok it' st' → it'.pr = false) ∧ PI X tg iter (tI X.K Z0 (ev P n c) it) ∧
      (∀ (s : Shared) (H : Hp) (A : Addr) (cl : List (Str × Addr)) (fp : List Addr), PG (X.blk s H scope (compEnvC scope cl A X.env) fp) tg (gT X.K t)) ∧
      (∀ (s : Shared) (H : Hp) (A : Addr) (cl : List (Str × Addr)) (fp : List Addr), PTs (X.blk s H scope (compEnvC scope cl A X.env) fp) ifs (tT X.K Z0 (ev P n c) cc)) ∧
      (∀ (s : Shared) (H : Hp) (A : Addr) (cl : List (Str × Addr)) (fp : List Addr), PE (X.blk s H scope (compEnvC scope cl A X.env) fp) elt (tE X.K Z0 (ev P n c) e)) := by
  have ok : BlkOk X.N X.env.scope scope (ownOf C vs) := by
    rw [k.N, k.sc]
    exact blkOk_by hok
  have kb := fun s H A cl fp => k.blk ok.kind s H A cl fp
  have tgt : prB it = true → ∃ es kk p, tg = .Tuple es kk p := fun hpr => by
    have hnm : t.isNm = false := by
      rw [hpr] at hp
      simpa using hp
    cases t with
    | nm _ => cases hnm
    | nil => cases tg <;> first | (exact absurd hg Bool.false_ne_true) | exact ⟨_, _, _, rfl⟩
    | cons _ _ => cases tg <;> first | (exact absurd hg Bool.false_ne_true) | exact ⟨_, _, _, rfl⟩
  refine ⟨ok, fun j hj => ?_, ?_, (sd C X k).i it iter hi tg tgt, fun s H A cl fp => g_ok (kb s H A cl fp) t tg hg, fun s H A cl fp => ?_, fun s H A cl fp => (sd _ _ (kb s H A cl fp)).e e elt he⟩
  · rw [own_map]
    exact of_decide_eq_true (List.all_eq_true.mp hsl j hj)
  · cases hb : prB it with
    | true =>
      rw [hb] at hp
      exact .inl (by simpa using hp)
    | false => exact .inr (pr_ok hb)
  · cases ifs with
    | nil =>
      cases cc <;> first | (exact absurd hf Bool.false_ne_true) | skip
      refine pts_none (X := X) fun env st => ?_
      cases n with
      | zero => exact .inr rfl
      | succ n =>
        rw [ev_succ]
        exact .inl rfl
    | cons i is =>
      cases is with
      | nil => exact pts_one ((sd _ _ (kb s H A cl fp)).t cc i hf)
      | cons _ _ => cases hf
theorem e_ok (k : CtxOk P c C X) (ih : ∀ m, m ≤ n → ∀ (c : Nat) (C : Ctx) (X : Cx), CtxOk P c C X → Sound P m c C X) : ∀ e x, chkE e C x = true → PE X x (tE X.K Z0 (ev P (n + 1) c) e) := by
  have sd := ih n (Nat.le_refl n) c
  have S := sd C X k
  have hz := z0_mono
  have hu := k.hu
  intro e x h
  rw [ev_succ]
  cases e <;> first | (exact absurd h Bool.false_ne_true) | skip
  case var i =>
    cases x <;> first | (exact absurd h Bool.false_ne_true) | skip
    obtain ⟨h1, h2, h3, h4⟩ := vis_ok k h
    exact e_var h1 h2 h3 h4
  case cst d =>
    cases x <;> first | (exact absurd h Bool.false_ne_true) | skip
    exact e_cst h
  case glb y d =>
    cases x <;> first | (exact absurd h Bool.false_ne_true) | skip
    rename_i z p
    obtain ⟨h, h4⟩ := b_and (show (decide (y = z) && glB C z && !(z == ("__debug__" : Str)) && C.cs.any fun p => decide (p.1 = z) && D.beq p.2 d) = true from h)
    obtain ⟨h, h3⟩ := b_and h
    obtain ⟨h1, h2⟩ := b_and h
    obtain ⟨q, hq, h5⟩ := List.any_eq_true.mp h4
    obtain ⟨h5, h6⟩ := b_and h5
    obtain ⟨v, u, g1, g2, g3⟩ := k.pr.con q hq
    rw [of_decide_eq_true h5] at g1
    have g3' := g3
    rw [beq_eq h6] at g3'
    exact impE (pe_glob (gl_ok k h2) g1 g2 (not_b h3)) fun σ H Q ⟨μ, env, st, hE, hS, hh⟩ => (show Post X.K μ H d st Q from hh) μ v H .refl (g3' μ H) hS
  case bin o a b =>
    cases x <;> first | (exact absurd h Bool.false_ne_true) | skip
    rename_i l op r p
    obtain ⟨h, h3⟩ := b_and (show (decide (op = pyB o) && chkE a C l && (chkE b C r || (isStrC a && chkK b C r))) = true from h)
    obtain ⟨h1, h2⟩ := b_and h
    cases of_decide_eq_true h1
    rw [Bool.or_eq_true] at h3
    rcases h3 with h3 | h3
    · exact e_bin hz (S.e a l h2) (S.e b r h3)
    · obtain ⟨h5, h4⟩ := b_and h3
      clear h3 h
      cases a with
      | cst d =>
        cases d with
        | str y =>
          cases l with
          | Constant kk j q =>
            cases kk with
            | str z =>
              cases of_decide_eq_true (show decide (y = z) = true from h2)
              refine e_binT hz (fun env st => ?_) (S.k b r h4)
              cases n with
              | zero => exact .inr rfl
              | succ n =>
                rw [ev_succ]
                exact .inl rfl
            | _ => cases h2
          | _ => cases h2
        | _ => cases h5
      | _ => cases h5
  case neg a =>
    cases x <;> first | (exact absurd h Bool.false_ne_true) | skip
    obtain ⟨h1, h2⟩ := b_and h
    cases of_decide_eq_true h1
    exact e_neg hz (S.e _ _ h2)
  case cmp o a b =>
    cases x <;> first | (exact absurd h Bool.false_ne_true) | skip
    rename_i l ops rs p
    match ops, rs, h with
    | [], _, h => cases h
    | [op], [], h => cases h
    | [op], [r], h =>
      obtain ⟨h, h4⟩ := b_and (show (decide (op = pyC o) && chkE a C l && chkE b C r && !behindInMarks (pyC o) r) = true from h)
      obtain ⟨h, h3⟩ := b_and h
      obtain ⟨h1, h2⟩ := b_and h
      cases of_decide_eq_true h1
      exact e_cmp hu hz (S.e _ _ h2) (S.e _ _ h3) (not_b h4)
    | [op], _ :: _ :: _, h => cases h
    | _ :: _ :: _, _, h => cases h
  case cmp2 o p a b cc =>
    cases x <;> first | (exact absurd h Bool.false_ne_true) | skip
    rename_i l ops rs q
    match ops, rs, h with
    | [], _, h => cases h
    | [_], _, h => cases h
    | [op, op2], [], h => cases h
    | [op, op2], [_], h => cases h
    | [op, op2], [r, r2], h =>
      obtain ⟨h, h6⟩ := b_and (show (decide (op = pyC o) && decide (op2 = pyC p) && chkE a C l && chkE b C r && chkE cc C r2 && !lastMarks [pyC o, pyC p] [r, r2]) = true from h)
      obtain ⟨h, h5⟩ := b_and h
      obtain ⟨h, h4⟩ := b_and h
      obtain ⟨h, h3⟩ := b_and h
      obtain ⟨h1, h2⟩ := b_and h
      cases of_decide_eq_true h1
      cases of_decide_eq_true h2
      exact e_cmp2 hu hz (S.e _ _ h3) (S.e _ _ h4) (S.e _ _ h5) (not_b h6)
    | [op, op2], _ :: _ :: _ :: _, h => cases h
    | _ :: _ :: _ :: _, _, h => cases h
  case and a b =>
    cases x <;> first | (exact absurd h Bool.false_ne_true) | skip
    rename_i op vs p
    match vs, h with
    | [], h => exact absurd h (by simp [chkE])
    | [_], h => exact absurd h (by simp [chkE])
    | y :: z :: rest, h =>
      obtain ⟨h1, h⟩ := b_and h
      obtain ⟨h2, h3⟩ := b_and h
      cases of_decide_eq_true h1
      cases rest with
      | nil => exact e_and hz (S.e _ _ h2) (pe_one (S.e _ _ h3))
      | cons _ _ => exact e_and hz (S.e _ _ h2) (S.e _ _ h3)
  case or a b =>
    cases x <;> first | (exact absurd h Bool.false_ne_true) | skip
    rename_i op vs p
    match vs, h with
    | [], h => exact absurd h (by simp [chkE])
    | [_], h => exact absurd h (by simp [chkE])
    | y :: z :: rest, h =>
      obtain ⟨h1, h⟩ := b_and h
      obtain ⟨h2, h3⟩ := b_and h
      cases of_decide_eq_true h1
      cases rest with
      | nil => exact e_or hz (S.e _ _ h2) (pe_one (S.e _ _ h3))
      | cons _ _ => exact e_or hz (S.e _ _ h2) (S.e _ _ h3)
  case not a =>
    cases x <;> first | (exact absurd h Bool.false_ne_true) | skip
    obtain ⟨h1, h2⟩ := b_and h
    cases of_decide_eq_true h1
    exact e_not hz (S.e _ _ h2)
  case ifx cc a b =>
    cases x <;> first | (exact absurd h Bool.false_ne_true) | skip
    obtain ⟨h, h3⟩ := b_and h
    obtain ⟨h1, h2⟩ := b_and h
    exact e_ifx hz (S.t _ _ h1) (S.e _ _ h2) (S.e _ _ h3)
  case tup es =>
    cases x <;> first | (exact absurd h Bool.false_ne_true) | skip
    exact e_tup hz (S.es _ _ h)
  case lst es =>
    cases x <;> first | (exact absurd h Bool.false_ne_true) | skip
    exact e_lst hz (S.es _ _ h)
  case idx a i =>
    cases x <;> first | (exact absurd h Bool.false_ne_true) | skip
    obtain ⟨h, h3⟩ := b_and h
    obtain ⟨h1, h2⟩ := b_and h
    exact e_idx hu hz (S.e _ _ h1) (S.e _ _ h2) (sl_plain h3)
  case slc a lo hi =>
    cases x <;> first | (exact absurd h Bool.false_ne_true) | skip
    rename_i v s p
    cases s <;> first | (exact absurd h Bool.false_ne_true) | skip
    rename_i l hh st q
    cases st <;> first | (exact absurd h Bool.false_ne_true) | skip
    obtain ⟨h, h3⟩ := b_and h
    obtain ⟨h1, h2⟩ := b_and h
    have part : ∀ {l : Option Expr} {lo : E}, (match l with | none => (match lo with | .none => true | _ => false) | some y => chkE lo C y) = true → PO X l (tO X.K Z0 (ev P n c) lo) := fun {l lo} h => by
      cases l with
      | none =>
        cases lo <;> first | (exact absurd h Bool.false_ne_true) | skip
        exact o_none
      | some y => exact o_some hz (S.e _ _ h) (fun z => by rw [z] at h; exact absurd h (by simp [chkE]))
    exact e_slc hz (S.e _ _ h1) (part h2) (part h3)
  case rev a =>
    cases x <;> first | (exact absurd h Bool.false_ne_true) | skip
    rename_i v s p
    cases s <;> first | (exact absurd h Bool.false_ne_true) | skip
    rename_i l hh st q
    cases l <;> first | (exact absurd h Bool.false_ne_true) | skip
    cases hh <;> first | (exact absurd h Bool.false_ne_true) | skip
    cases st <;> first | (exact absurd h Bool.false_ne_true) | skip
    rename_i y
    cases y <;> first | (exact absurd h Bool.false_ne_true) | skip
    rename_i op kk p2
    cases kk <;> first | (exact absurd h Bool.false_ne_true) | skip
    obtain ⟨h, h3⟩ := b_and h
    obtain ⟨h1, h2⟩ := b_and h
    cases of_decide_eq_true h1
    cases of_decide_eq_true h2
    exact e_rev hz (S.e _ _ h3)
  case call i es =>
    cases x <;> first | (exact absurd h Bool.false_ne_true) | skip
    rename_i f args kws p
    cases f <;> first | (exact absurd h Bool.false_ne_true) | skip
    rename_i y p2
    cases kws <;> first | (exact absurd h Bool.false_ne_true) | skip
    obtain ⟨h, h5⟩ := b_and (show (decide (C.fs[i]? = some y) && glB C y && !(y == ("__debug__" : Str)) && chkEs es C args && nsts args) = true from h)
    obtain ⟨h, h4⟩ := b_and h
    obtain ⟨h, h3⟩ := b_and h
    obtain ⟨h1, h2⟩ := b_and h
    have h1 := of_decide_eq_true h1
    cases hi : nth P i with
    | none =>
      exfalso
      rw [nth_eq] at hi
      have g1 := List.getElem?_eq_none_iff.mp hi
      have g2 := (List.getElem?_eq_some_iff.mp h1).1
      have g3 := k.pr.len
      omega
    | some fn =>
      obtain ⟨x, f, fd, ps, g1, g2, g3, g4, F⟩ := def_ok (base := X.base) k.pr hi (fun c' e C X kk => ih n (Nat.le_refl n) c' C X kk)
      rw [h1] at g1
      cases g1
      cases args with
      | nil =>
        cases es <;> first | (exact absurd h4 Bool.false_ne_true) | skip
        refine e_call0 F k.room (gl_ok k h2) g2 g3 g4 hi (fun env st => ?_) (not_b h3)
        cases n with
        | zero => exact .inr rfl
        | succ n =>
          rw [ev_succ]
          exact .inl rfl
      | cons a as => exact e_call F k.room (gl_ok k h2) g2 g3 g4 hi (S.es _ _ h4) h5 (not_b h3)
  case blt b es =>
    cases x <;> first | (exact absurd h Bool.false_ne_true) | skip
    rename_i f args kws p
    cases f <;> first | (exact absurd h Bool.false_ne_true) | skip
    rename_i y p2
    cases kws <;> first | (exact absurd h Bool.false_ne_true) | skip
    obtain ⟨h, h7⟩ := b_and h
    obtain ⟨h, h6⟩ := b_and h
    obtain ⟨h, h5⟩ := b_and h
    obtain ⟨h, h4⟩ := b_and h
    obtain ⟨h, h3⟩ := b_and h
    obtain ⟨h1, h2⟩ := b_and h
    cases of_decide_eq_true h1
    rw [Bool.or_eq_true] at h3
    cases args with
    | nil => cases h7
    | cons a as =>
      refine e_blt hz h3 ?_ (gl_ok k h2) (k.pr.blt b (by rcases h3 with h3 | h3 <;> cases b <;> first | rfl | cases h3)) (S.es _ _ h5) h6
      cases e : asRng (oneE es) with
      | none => rfl
      | some _ => rw [e] at h4; cases h4
  case mth m o es =>
    cases x <;> first | (exact absurd h Bool.false_ne_true) | skip
    rename_i f args kws p
    cases f <;> first | (exact absurd h Bool.false_ne_true) | skip
    rename_i v y ap
    cases kws <;> first | (exact absurd h Bool.false_ne_true) | skip
    obtain ⟨h, h7⟩ := b_and (show (decide (y = mthN m) && chkE o C v && chkEs es C args && nsts args && nsup v && (ap.endLine == p.line) && Nat.blt args.length 29) = true from h)
    obtain ⟨h, h6⟩ := b_and h
    obtain ⟨h, h5⟩ := b_and h
    obtain ⟨h, h4⟩ := b_and h
    obtain ⟨h, h3⟩ := b_and h
    obtain ⟨h1, h2⟩ := b_and h
    cases of_decide_eq_true h1
    exact e_mth hz (S.e _ _ h2) (S.es _ _ h3) h4 h5 h6 (Nat.blt_eq.mp h7)
  case isi t e =>
    cases x <;> first | (exact absurd h Bool.false_ne_true) | skip
    rename_i f args kws p
    cases f <;> first | (exact absurd h Bool.false_ne_true) | skip
    rename_i y p2
    cases kws <;> first | (exact absurd h Bool.false_ne_true) | skip
    match args, h with
    | [], h => cases h
    | [_], h => cases h
    | _ :: _ :: _ :: _, h => cases h
    | [v, w], h =>
      cases w <;> first | (exact absurd h Bool.false_ne_true) | skip
      rename_i z p3
      obtain ⟨h, h6⟩ := b_and (show (decide (y = "isinstance") && decide (z = Str.ofString (tyN t)) && glB C y && glB C z && chkE e C v && nst v) = true from h)
      obtain ⟨h, h5⟩ := b_and h
      obtain ⟨h, h4⟩ := b_and h
      obtain ⟨h, h3⟩ := b_and h
      obtain ⟨h1, h2⟩ := b_and h
      cases of_decide_eq_true h1
      cases of_decide_eq_true h2
      exact e_isi hz (S.e _ _ h5) h6 (gl_ok k h3) k.pr.isi (gl_ok k h4) (k.pr.ty t)
  case lc vs t it cc e =>
    cases x <;> first | (exact absurd h Bool.false_ne_true) | skip
    rename_i elt gens scope p
    match gens, h with
    | [], h => cases h
    | _ :: _ :: _, h => cases h
    | [⟨tg, iter, ifs, asy⟩], h =>
      obtain ⟨h, h9⟩ := b_and h
      obtain ⟨h, h8⟩ := b_and h
      obtain ⟨h, h7⟩ := b_and h
      obtain ⟨h, h6⟩ := b_and h
      obtain ⟨h, h5⟩ := b_and h
      obtain ⟨h, h4⟩ := b_and h
      obtain ⟨h, h3⟩ := b_and h
      obtain ⟨h, h2⟩ := b_and h
      obtain ⟨h0, h1⟩ := b_and h
      cases of_decide_eq_true h0
      obtain ⟨q1, q2, q3, q4, q5, q6, q7⟩ := lc_parts k sd h1 h2 h3 h4 h5 (not_b h6) h7 h8 h9
      have := e_lc (P := P) (n := n) (rc := callee P n c) (pos := p) hz k.calm (nd k) h2 q2 q3 q4 q1 q5 q6 q7 (comp_set (not_b h6) X.env)
      rw [own_map] at this
      exact this
end
end Ev
end

section
set_option Elab.async false
set_option linter.all false
set_option maxRecDepth 100000
set_option maxHeartbeats 16000000
/-! Snd21: the runner is right: all. -/
namespace Ev
open PySem PySem.Spec L2
section
variable {P : List Fn} {n c : Nat} {C : Ctx} {X : Cx}
theorem k_ok (k : CtxOk P c C X) (S : Sound P n c C X) : ∀ e x, chkK e C x = true → PET X x (tE X.K Z0 (ev P (n + 1) c) e) := by
  intro e x h
  rw [ev_succ]
  cases e with
  | rpl a y z =>
    cases x <;> first | (exact absurd h Bool.false_ne_true) | skip
    rename_i f args kws p
    cases f <;> first | (exact absurd h Bool.false_ne_true) | skip
    rename_i v nm ap
    cases kws <;> first | (exact absurd h Bool.false_ne_true) | skip
    match args, h with
    | [], h => cases h
    | [_], h => cases h
    | _ :: _ :: _ :: _, h => cases h
    | [k1, k2], h =>
      cases k1 <;> first | (exact absurd h Bool.false_ne_true) | skip
      rename_i c1 j1 p1
      cases k2 <;> first | (exact absurd h Bool.false_ne_true) | skip
      rename_i c2 j2 p2
      obtain ⟨h, h7⟩ := b_and (show (decide (nm = "replace") && decide (c1 = .str y) && decide (c2 = .str z) && !(y == z) && nsup v && (ap.endLine == p.line) && (chkE a C v || chkK a C v)) = true from h)
      obtain ⟨h, h6⟩ := b_and h
      obtain ⟨h, h5⟩ := b_and h
      obtain ⟨h, h4⟩ := b_and h
      obtain ⟨h, h3⟩ := b_and h
      obtain ⟨h1, h2⟩ := b_and h
      cases of_decide_eq_true h1
      cases of_decide_eq_true h2
      cases of_decide_eq_true h3
      rw [Bool.or_eq_true] at h7
      rcases h7 with h7 | h7
      · exact k_rplC z0_mono (S.e a v h7) (not_b h4) h5 h6
      · exact k_rplT z0_mono (S.k a v h7) (not_b h4) h5 h6
  | _ => cases h
theorem es_ok (k : CtxOk P c C X) (S : Sound P n c C X) : ∀ e xs, chkEs e C xs = true → PA X xs (tEs X.K Z0 (ev P (n + 1) c) e) := by
  intro e xs h
  rw [ev_succ]
  cases e with
  | nil =>
    cases xs with
    | nil => exact a_nil
    | cons _ _ => cases h
  | cons e r =>
    cases xs with
    | nil => cases h
    | cons x xs =>
      obtain ⟨h, h3⟩ := b_and h
      obtain ⟨h1, h2⟩ := b_and h
      exact a_cons z0_mono (S.e _ _ h2) (S.es _ _ h3) h1
  | _ => cases h
theorem cmp_bl {P : List Fn} {n c : Nat} {a : E} (h : isCmpE a = true) : ∀ env st d st', (ev P n c).e a env st = .ok d st' → ∃ k, d = .bl k := by
  intro env st d st' e
  cases n with
  | zero => cases e
  | succ n =>
    rw [ev_succ] at e
    have ofb : ∀ {o : Option Bool} {st : Sto}, ofB st o = .ok d st' → ∃ k, d = .bl k := fun {o st} e => by
      cases o with
      | none => cases e
      | some k => cases e; exact ⟨k, rfl⟩
    cases a with
    | cmp o a b =>
      obtain ⟨x, st1, e⟩ := ok_bind (show ((ev P n c).e a env st).bind (fun x st => ((ev P n c).e b env st).bind fun y st => ofB st (cmpop o x y st)) = .ok d st' from e)
      obtain ⟨y, st2, e⟩ := ok_bind e
      exact ofb e
    | cmp2 o p a b cc =>
      obtain ⟨x, st1, e⟩ := ok_bind (show ((ev P n c).e a env st).bind (fun x st => ((ev P n c).e b env st).bind fun y st => (match cmpop o x y st with
        | some true => ((ev P n c).e cc env st).bind fun z st => ofB st (cmpop p y z st)
        | some false => .ok (.bl false) st
        | none => .no)) = .ok d st' from e)
      obtain ⟨y, st2, e⟩ := ok_bind e
      cases e2 : cmpop o x y st2 with
      | none => rw [e2] at e; cases e
      | some k =>
        rw [e2] at e
        cases k with
        | false => cases e; exact ⟨false, rfl⟩
        | true =>
          obtain ⟨z, st3, e⟩ := ok_bind (show ((ev P n c).e cc env st2).bind (fun z st => ofB st (cmpop p y z st)) = .ok d st' from e)
          exact ofb e
    | _ => cases h
theorem t_ok (k : CtxOk P c C X) (ih : ∀ m, m ≤ n → Sound P m c C X) : ∀ e x, chkT e C x = true → PT X x (tT X.K Z0 (ev P (n + 1) c) e) := by
  have S := ih n (Nat.le_refl n)
  have hz := z0_mono
  have hu := k.hu
  intro e x h
  rw [ev_succ]
  cases e with
  | and a b =>
    cases x <;> first | (exact absurd h Bool.false_ne_true) | skip
    rename_i op vs p
    match vs, h with
    | [], h => exact absurd h (by simp [chkT])
    | [_], h => exact absurd h (by simp [chkT])
    | y :: z :: rest, h =>
      obtain ⟨h1, h⟩ := b_and h
      obtain ⟨h2, h3⟩ := b_and h
      cases of_decide_eq_true h1
      cases rest with
      | nil => exact (t_and hz (S.t _ _ h2) (pw_and1 (S.t _ _ h3))).pt
      | cons _ _ => exact (t_and hz (S.t _ _ h2) (pw_of (S.t _ _ h3))).pt
  | or a b =>
    cases x <;> first | (exact absurd h Bool.false_ne_true) | skip
    rename_i op vs p
    match vs, h with
    | [], h => exact absurd h (by simp [chkT])
    | [_], h => exact absurd h (by simp [chkT])
    | y :: z :: rest, h =>
      obtain ⟨h1, h⟩ := b_and h
      obtain ⟨h2, h3⟩ := b_and h
      cases of_decide_eq_true h1
      cases rest with
      | nil => exact (t_or hz (S.t _ _ h2) (pw_or1 (S.t _ _ h3))).pt
      | cons _ _ => exact (t_or hz (S.t _ _ h2) (pw_of (S.t _ _ h3))).pt
  | not a =>
    cases x <;> first | (exact absurd h Bool.false_ne_true) | skip
    obtain ⟨h1, h2⟩ := b_and h
    cases of_decide_eq_true h1
    exact t_not hz (S.t _ _ h2)
  | val e =>
    obtain ⟨h1, h2⟩ := b_and (show (chkE e C x && (tst x || isCmpE e)) = true from h)
    cases ht : tst x with
    | true => exact t_val hz ht (S.e _ _ h1)
    | false =>
      rw [ht] at h2
      have h2 : isCmpE e = true := h2
      refine t_bool hz ?_ (cmp_bl h2)
      cases n with
      | zero => exact ⟨fun pins s σ H Q I ⟨μ, env, st, hE, hS, q⟩ => q.elim⟩
      | succ m =>
        have S' := ih m (Nat.le_succ m)
        rw [ev_succ]
        cases e with
        | cmp o a b =>
          cases x <;> first | (exact absurd h1 Bool.false_ne_true) | skip
          rename_i l ops rs p
          match ops, rs, h1 with
          | [], _, h => cases h
          | [op], [], h => cases h
          | [op], [r], h =>
            obtain ⟨h, h4⟩ := b_and (show (decide (op = pyC o) && chkE a C l && chkE b C r && !behindInMarks (pyC o) r) = true from h)
            obtain ⟨h, h3⟩ := b_and h
            obtain ⟨h1, h2⟩ := b_and h
            cases of_decide_eq_true h1
            exact t_cmp hu hz (S'.e _ _ h2) (S'.e _ _ h3) (not_b h4)
          | [op], _ :: _ :: _, h => cases h
          | _ :: _ :: _, _, h => cases h
        | cmp2 o p a b cc =>
          cases x <;> first | (exact absurd h1 Bool.false_ne_true) | skip
          rename_i l ops rs q
          match ops, rs, h1 with
          | [], _, h => cases h
          | [_], _, h => cases h
          | [op, op2], [], h => cases h
          | [op, op2], [_], h => cases h
          | [op, op2], [r, r2], h =>
            obtain ⟨h, h6⟩ := b_and (show (decide (op = pyC o) && decide (op2 = pyC p) && chkE a C l && chkE b C r && chkE cc C r2 && !lastMarks [pyC o, pyC p] [r, r2]) = true from h)
            obtain ⟨h, h5⟩ := b_and h
            obtain ⟨h, h4⟩ := b_and h
            obtain ⟨h, h3⟩ := b_and h
            obtain ⟨h1, h2⟩ := b_and h
            cases of_decide_eq_true h1
            cases of_decide_eq_true h2
            exact t_cmp2 hu hz (S'.e _ _ h3) (S'.e _ _ h4) (S'.e _ _ h5) (not_b h6)
          | [op, op2], _ :: _ :: _ :: _, h => cases h
          | _ :: _ :: _ :: _, _, h => cases h
        | _ => cases h2
  | _ => cases h
theorem i_ok (k : CtxOk P c C X) (S : Sound P n c C X) : ∀ e x, chkI e C x = true → ∀ tg, (prB e = true → ∃ es k p, tg = .Tuple es k p) → PI X tg x (tI X.K Z0 (ev P (n + 1) c) e) := by
  have hz := z0_mono
  intro e x h tg ht
  rw [ev_succ]
  cases e with
  | val e => exact i_val hz (S.e _ _ h)
  | blt b es =>
    cases b with
    | range =>
      cases x <;> first | (exact absurd h Bool.false_ne_true) | skip
      rename_i f args kws p
      cases f <;> first | (exact absurd h Bool.false_ne_true) | skip
      rename_i y p2
      cases kws <;> first | (exact absurd h Bool.false_ne_true) | skip
      obtain ⟨h, h4⟩ := b_and h
      obtain ⟨h, h3⟩ := b_and h
      obtain ⟨h1, h2⟩ := b_and h
      cases of_decide_eq_true h1
      have hg := gl_ok k h2
      have hm : X.mg "range" = none := k.pr.blt .range rfl
      cases es with
      | cons a q =>
        cases args with
        | nil => cases h3
        | cons xa xs =>
          obtain ⟨h3, h7⟩ := b_and h3
          obtain ⟨h5, h6⟩ := b_and h3
          cases q with
          | nil =>
            cases xs with
            | nil => exact i_range1 hz hg hm (S.e _ _ h6) h5
            | cons _ _ => cases h7
          | cons b q' =>
            cases xs with
            | nil => cases h7
            | cons xb xs =>
              obtain ⟨h7, h10⟩ := b_and h7
              obtain ⟨h8, h9⟩ := b_and h7
              cases q' with
              | nil =>
                cases xs with
                | nil => exact i_range2 hz hg hm (S.e _ _ h6) (S.e _ _ h9) h5 h8
                | cons _ _ => cases h10
              | _ => cases h4
          | _ => cases h4
      | _ => cases h4
    | _ => cases h
  | _ => cases h
end
end Ev
end

section
set_option Elab.async false
set_option linter.all false
set_option maxRecDepth 100000
set_option maxHeartbeats 16000000
/-! Snd22: the runner is right: statements, all. -/
namespace Ev
open PySem PySem.Spec L2
section
variable {P : List Fn} {n c : Nat} {C : Ctx} {X : Cx}
theorem sub_assign {o i : Expr} {p : Pos} {env : PySem.Env} (h : noSlice i = true) : ∀ v, assign (.Subscript o i p) env v = (do
      let ov ← holding [v] (eval o env)
      let iv ← holding [v, ov] (eval i env)
      standAt p
      holding [v, ov, iv] (setItem ov iv v)
      release [v, ov, iv] []) := by
  intro v
  cases i <;> first | rfl | cases h
theorem swaps_lc {elt : Expr} {gs : List Comprehension} {scope : Scope} {pos py : Pos} {y : Str} {l : Nat} {env : PySem.Env} (hk : env.scope.kind = .function) : swapsWith (.ListComp elt gs scope pos) (some (.Name y py)) l env =
    pure (decide (env.scope.names.lookup y = some .local) && (py.line == pos.line) && !(scope.names.any fun (n, k) => n == y && (k == .local || k == .cell))) := by
  have hb : env.blockKind = .function := by unfold PySem.Env.blockKind; rw [hk]; rfl
  have e : (env.kindOf y == some NameKind.local) = decide (env.scope.names.lookup y = some .local) := by
    show (env.scope.names.lookup y == some NameKind.local) = _
    cases h : decide (env.scope.names.lookup y = some NameKind.local) with
    | true => exact beq_iff_eq.mpr (of_decide_eq_true h)
    | false => exact beq_eq_false_iff_ne.mpr (of_decide_eq_false h)
  unfold swapsWith
  simp only [hb, Expr.pos]
  rw [e]
  rfl
def isStar : Expr → Bool
  | .Starred .. => true
  | _ => false
theorem star_no {a : Expr} (h : nst a = true) : isStar a = false := by cases a <;> first | rfl | cases h
theorem par_w {x y : Str} {px py pt pt2 : Pos} {a b : Expr} {kt k2 : Nat} {env : PySem.Env} (hk : env.scope.kind = .function) (hx : env.scope.names.lookup x = some .local) (hy : env.scope.names.lookup y = some .local) (hxy : x ≠ y) (hl : (py.line == px.line) = true)
    (ha : nst a = true) (hb : nst b = true) (hf : (foldedForSure 8 a && foldedForSure 8 b) = false) (hc : (constantsAlone 8 a && constantsAlone 8 b) = false) :
    swappedStores [.Tuple [.Name x px, .Name y py] kt pt] (.Tuple [a, b] k2 pt2) env = pure (some [x, y]) := by
  have hbk : env.blockKind = .function := by unfold PySem.Env.blockKind; rw [hk]; rfl
  have kx : env.kindOf x = some .local := hx
  have ky : env.kindOf y = some .local := hy
  have n1 := star_no ha
  have n2 := star_no hb
  unfold swappedStores
  simp only [hbk, List.length_cons, List.length_nil, List.any_cons, List.any_nil, List.head?_cons, Option.map_some, Option.getD_some, Expr.pos, List.filterMap_cons, List.filterMap_nil, kx, ky, hl]
  have dd : ([x, y] : List Str).eraseDups = [x, y] := by
    rw [List.eraseDups_cons, List.filter_cons, if_pos (by simp [Ne.symm hxy]), List.filter_nil, List.eraseDups_cons]
    simp
  have a1 : [a, b].all (foldedForSure 8) = false := by simpa using hf
  have a2 : [a, b].all (constantsAlone 8) = false := by simpa using hc
  have e1 : (some NameKind.local == some NameKind.local) = true := rfl
  simp only [e1, beq_self_eq_true, Bool.and_self, if_true, dd, a1, a2]
  show (if (!(true || 0 + 1 + 1 == 3) || 0 + 1 + 1 != 0 + 1 + 1 || ScopeKind.function != ScopeKind.function) = true then pure none else if (isStar a || (isStar b || false)) = true then pure none else _) = _
  rw [n1, n2]
  rfl
theorem s_ok (k : CtxOk P c C X) (ih : ∀ m, m ≤ n → ∀ (c : Nat) (C : Ctx) (X : Cx), CtxOk P c C X → Sound P m c C X) : ∀ s x, chkS s C x = true → PS X x (tS X.K Z0 (ev P (n + 1) c) s) := by
  have S := ih n (Nat.le_refl n) c C X k
  have hz := z0_mono
  have hu := k.hu
  intro s x h
  rw [ev_succ]
  cases s with
  | skip =>
    cases x <;> first | (exact absurd h Bool.false_ne_true) | skip
    exact s_pass
  | exp e =>
    cases x <;> first | (exact absurd h Bool.false_ne_true) | skip
    obtain ⟨h1, h2⟩ := b_and h
    exact s_exp hz (S.e _ _ h1) h2
  | ret e =>
    cases x <;> first | (exact absurd h Bool.false_ne_true) | skip
    rename_i o p
    cases o with
    | none => cases h
    | some v => exact s_ret hz (S.e _ _ h)
  | retn =>
    cases x <;> first | (exact absurd h Bool.false_ne_true) | skip
    rename_i o p
    cases o with
    | none => exact s_retn
    | some v => cases h
  | brk =>
    cases x <;> first | (exact absurd h Bool.false_ne_true) | skip
    exact s_brk
  | cnt =>
    cases x <;> first | (exact absurd h Bool.false_ne_true) | skip
    exact s_cnt
  | asg t e =>
    cases x <;> first | (exact absurd h Bool.false_ne_true) | skip
    rename_i tgs v p
    match tgs, h with
    | [], h => cases h
    | _ :: _ :: _, h => cases h
    | [tg], h =>
      have tup : (t.wf && chkG t C tg && nst tg && chkE e C v && ncmp v && !isTupE v) = true → PS X (.Assign [tg] v p) (tS X.K Z0 (step P n (ev P n c) (callee P n c)) (.asg t e)) := fun h => by
        obtain ⟨h, h6⟩ := b_and h
        obtain ⟨h, h5⟩ := b_and h
        obtain ⟨h, h4⟩ := b_and h
        obtain ⟨h, h3⟩ := b_and h
        obtain ⟨h1, h2⟩ := b_and h
        exact s_asgT hz h1 (g_ok k t tg h2) (S.e _ _ h4) (swaps_no h5) (swapped_no (not_b h6)) (by rw [asg_cons h3]; rfl)
      cases t with
      | nm i =>
        cases tg <;> first | (exact absurd h Bool.false_ne_true) | skip
        rename_i y py
        obtain ⟨h, h3⟩ := b_and h
        obtain ⟨h1, h2⟩ := b_and h
        obtain ⟨g1, g2, g3⟩ := loc_ok k h1
        by_cases hn : ncmp v = true
        · exact s_asgN hz (nd k) g1 g2 g3 (S.e _ _ h2) (swaps_no hn)
        · cases v with
          | ListComp elt gens scope pos =>
            have hk : X.env.scope.kind = .function := by rw [k.sc]; exact k.kd
            have hsw := swaps_lc (elt := elt) (gs := gens) (scope := scope) (pos := pos) (py := py) (y := y) (l := p.line) hk
            cases hb : (decide (X.env.scope.names.lookup y = some .local) && (py.line == pos.line) && !(scope.names.any fun (n, k) => n == y && (k == .local || k == .cell))) with
            | false => exact s_asgN hz (nd k) g1 g2 g3 (S.e _ _ h2) (by rw [hsw, hb])
            | true =>
              obtain ⟨hb1, _⟩ := b_and hb
              obtain ⟨hb1, _⟩ := b_and hb1
              have hyl := of_decide_eq_true hb1
              cases n with
              | zero => exact ⟨fun pins s σ H D I ⟨μ, env, st, hE, hS, q⟩ => q.elim⟩
              | succ m =>
                cases e with
                | lc vs t it cc e =>
                  match gens, h2 with
                  | [], h => cases h
                  | _ :: _ :: _, h => cases h
                  | [⟨tg, iter, ifs, asy⟩], h =>
                    obtain ⟨h, q9⟩ := b_and h
                    obtain ⟨h, q8⟩ := b_and h
                    obtain ⟨h, q7⟩ := b_and h
                    obtain ⟨h, q6⟩ := b_and h
                    obtain ⟨h, q5⟩ := b_and h
                    obtain ⟨h, q4⟩ := b_and h
                    obtain ⟨h, q3⟩ := b_and h
                    obtain ⟨h, q2⟩ := b_and h
                    obtain ⟨q0, q1⟩ := b_and h
                    cases of_decide_eq_true q0
                    obtain ⟨w1, w2, w3, w4, w5, w6, w7⟩ := lc_parts k (fun C X kk => ih m (Nat.le_succ m) c C X kk) q1 q2 q3 q4 q5 (not_b q6) q7 q8 q9
                    have := s_setLc (P := P) (n := m) (rc := callee P m c) (n2 := m + 1) (rc2 := callee P (m + 1) c) (r2 := ev P (m + 1) c) hz k.calm (nd k) g1 hyl (by rw [hsw, hb]) q2 w2 w3 w4 w1 w5 w6 w7 (comp_set (not_b q6) X.env) (fun env st => by rw [ev_succ])
                    rw [own_map] at this
                    exact this
                | _ => exact absurd h2 Bool.false_ne_true
          | _ => first | exact absurd rfl hn | exact absurd h3 Bool.false_ne_true
      | nil => exact tup h
      | cons _ _ => exact tup h
  | sto o i e =>
    cases x <;> first | (exact absurd h Bool.false_ne_true) | skip
    rename_i tgs v p
    match tgs, h with
    | [], h => cases h
    | _ :: _ :: _, h => cases h
    | [tg], h =>
      cases tg with
      | Subscript xo xi ps =>
        obtain ⟨h, h6⟩ := b_and h
        obtain ⟨h, h5⟩ := b_and h
        obtain ⟨h, h4⟩ := b_and h
        obtain ⟨h, h3⟩ := b_and h
        obtain ⟨h1, h2⟩ := b_and h
        exact s_sto hu hz (S.e _ _ h1) (S.e _ _ h2) (S.e _ _ h3) (sub_assign h4) (swaps_no (v := v) (t := some (.Subscript xo xi ps)) (l := p.line) (env := X.env) h5) (swapped_no (not_b h6)) rfl
      | _ => exact absurd h Bool.false_ne_true
  | aug i o e =>
    cases x <;> first | (exact absurd h Bool.false_ne_true) | skip
    rename_i tg op v p
    cases tg <;> first | (exact absurd h Bool.false_ne_true) | skip
    obtain ⟨h, h3⟩ := b_and h
    obtain ⟨h1, h2⟩ := b_and h
    cases of_decide_eq_true h2
    obtain ⟨g1, g2, g3⟩ := loc_ok k h1
    exact s_aug hz (nd k) g1 g2 g3 (S.e _ _ h3)
  | par i j a b =>
    cases x <;> first | (exact absurd h Bool.false_ne_true) | skip
    rename_i tgs v p
    match tgs, h with
    | [], h => cases h
    | _ :: _ :: _, h => cases h
    | [tg], h =>
      cases tg with
      | Tuple ts kt pt =>
        match ts, h with
        | [], h => cases h
        | [_], h => cases h
        | _ :: _ :: _ :: _, h => cases h
        | [t1, t2], h =>
          cases t1 with
          | Name y py =>
            cases t2 with
            | Name z pz =>
              cases v with
              | Tuple vs k2 pt2 =>
                match vs, h with
                | [], h => cases h
                | [_], h => cases h
                | _ :: _ :: _ :: _, h => cases h
                | [v1, v2], h =>
                  obtain ⟨h, h3⟩ := b_and h
                  obtain ⟨h1, h2⟩ := b_and h
                  obtain ⟨h, g11⟩ := b_and h1
                  obtain ⟨h, g10⟩ := b_and h
                  obtain ⟨h, g9⟩ := b_and h
                  obtain ⟨h, g8⟩ := b_and h
                  obtain ⟨h, g7⟩ := b_and h
                  obtain ⟨h, g6⟩ := b_and h
                  obtain ⟨h, g5⟩ := b_and h
                  obtain ⟨h, g4⟩ := b_and h
                  obtain ⟨h, g3⟩ := b_and h
                  obtain ⟨g1, g2⟩ := b_and h
                  have g1 := of_decide_eq_true g1
                  have g2 := of_decide_eq_true g2
                  have g3 := of_decide_eq_true g3
                  have g4 := of_decide_eq_true g4
                  have g5 := of_decide_eq_true g5
                  have g6 := of_decide_eq_true g6
                  refine impS (ps_par k.calm (nd k) (by rw [k.N]; exact g1) (by rw [k.N]; exact g2) g3 (by rw [k.sc]; exact g4) (by rw [k.sc]; exact g5) (pa_cons (S.e _ _ h2) (pa_cons (S.e _ _ h3) pa_nil (star_cons g9)) (star_cons g8))
                    (par_w (by rw [k.sc]; exact k.kd) (by rw [k.sc]; exact g4) (by rw [k.sc]; exact g5) g6 g7 g8 g9 (not_b g10) (not_b g11)) rfl) fun D σ H ⟨μ, env, st, hE, hS, q⟩ => ?_
                  refine seqE hz hE hS q fun d st1 μ1 v H1 L1 r1 S1 q1 => seqE hz (hE.mono L1) S1 q1 fun d2 st2 μ2 w H2 L2 r2 S2 q2 => ?_
                  exact ⟨v, w, rfl, (show PostS X.K μ H (.nx ((env.put i d).put j d2)) st2 D from q2) μ2 _ H2 (L1.trans L2) ((((hE.mono L1).mono L2).put (r1.mono L2)).put r2) S2⟩
              | _ => cases h
            | _ => cases h
          | _ => cases h
      | _ => cases h
  | ife cc a b =>
    cases x <;> first | (exact absurd h Bool.false_ne_true) | skip
    obtain ⟨h, h3⟩ := b_and h
    obtain ⟨h1, h2⟩ := b_and h
    exact s_ife hz (S.t _ _ h1) (S.ss _ _ h2) (S.ss _ _ h3)
  | whl cc b =>
    cases x <;> first | (exact absurd h Bool.false_ne_true) | skip
    rename_i t u w p
    cases w with
    | cons _ _ => cases h
    | nil =>
      obtain ⟨h1, h2⟩ := b_and h
      exact s_whl hz k.po (S.t _ _ h1) (S.ss _ _ h2)
  | fr t it b =>
    cases x <;> first | (exact absurd h Bool.false_ne_true) | skip
    rename_i tg iter u w p
    cases w with
    | cons _ _ => cases h
    | nil =>
      obtain ⟨h, h6⟩ := b_and h
      obtain ⟨h, h5⟩ := b_and h
      obtain ⟨h, h4⟩ := b_and h
      obtain ⟨h, h3⟩ := b_and h
      obtain ⟨h1, h2⟩ := b_and h
      have tgt : prB it = true → ∃ es kk p, tg = .Tuple es kk p := fun hpr => by
        have hnm : t.isNm = false := by
          rw [hpr] at h5
          simpa using h5
        cases t with
        | nm _ => cases hnm
        | nil => cases tg <;> first | (exact absurd h2 Bool.false_ne_true) | exact ⟨_, _, _, rfl⟩
        | cons _ _ => cases tg <;> first | (exact absurd h2 Bool.false_ne_true) | exact ⟨_, _, _, rfl⟩
      refine s_fr hz k.po k.calm (S.i it iter h3 tg tgt) h1 (g_ok k t tg h2) (S.ss _ _ h6) (comp_set (not_b h4) X.env) ?_
      cases hb : prB it with
      | true =>
        rw [hb] at h5
        exact .inl (by simpa using h5)
      | false => exact .inr (pr_ok hb)
  | nev => exact s_nev
  | _ => cases h
theorem ss_ok (k : CtxOk P c C X) (S : Sound P n c C X) : ∀ s xs, chkSs s C xs = true → PSs X xs (tS X.K Z0 (ev P (n + 1) c) s) := by
  intro s xs h
  rw [ev_succ]
  cases s with
  | skip =>
    cases xs with
    | nil => exact s_skip
    | cons _ _ => cases h
  | seq a b =>
    cases xs with
    | nil => cases h
    | cons x xs =>
      obtain ⟨h1, h2⟩ := b_and h
      exact s_seq z0_mono (S.s _ _ h1) (S.ss _ _ h2)
  | nev => exact s_nevs
  | _ => cases h
end
/-- the runner is right -/
theorem sound (P : List Fn) : ∀ (n c : Nat) (C : Ctx) (X : Cx), CtxOk P c C X → Sound P n c C X := by
  intro n
  induction n using Nat.strongRecOn with
  | _ n ih =>
    intro c C X k
    cases n with
    | zero => exact sound0
    | succ n =>
      have ih' : ∀ m, m ≤ n → ∀ (c : Nat) (C : Ctx) (X : Cx), CtxOk P c C X → Sound P m c C X := fun m hm => ih m (Nat.lt_succ_of_le hm)
      have S := ih' n (Nat.le_refl n) c C X k
      exact ⟨e_ok k ih', k_ok k S, es_ok k S, t_ok k (fun m hm => ih' m hm c C X k), i_ok k S, s_ok k ih', ss_ok k S⟩
end Ev
end

section
set_option Elab.async false
set_option linter.all false
set_option maxRecDepth 100000
set_option maxHeartbeats 4000000
/-! Snd23: a law's end. -/
namespace Ev
open PySem PySem.Spec L2
theorem ro_of {K : PySem.W.Frag} {H : Hp} {a : Addr} {xs : List V} (h : SqL K H a xs) (o : Only H) : Ro K H a xs := by
  rcases h with (h | ⟨ob, h⟩) | h
  · rcases o a with e | ⟨ob, ys, e⟩ <;> (rw [e] at h; cases h)
  · exact .inl ⟨ob, h⟩
  · exact .inr h
/-- the law's def keeps its promise -/
theorem fn_law {P : List Fn} {fs : List Str} {cs : List (Str × D)} {n c i : Nat} {fn : Fn} {prog : Program} {w : World} {K : PySem.W.Frag} {mg : Str → Option Value} {base : Heap} {f : Addr} {fd : FuncData} {ps N : List Str} {nm qual : Str} {params : Arguments} {body : List Stmt} {scope : Scope}
    (pr : PrgOk prog w K mg P fs cs) (hi : nth P i = some fn) (F : FunD K nm qual params body scope [] [] f fd) (S : FnScope N ps scope) (hps : ps.length = fn.ps) (hns : N.length = fn.ns) (hck : chkSs fn.body ⟨N, scope, none, fs, cs⟩ body = true) :
    FnOk prog w K mg base CX0 (c + 1) f fd ps (spF K P (ev P n c) i) := by
  refine F.ok S (fun vs H Q E ⟨⟨f', hf, hl⟩, _⟩ => by rw [hi] at hf; cases hf; rw [hl, hps]) fun cdv A outer s H vs Q E hr hsp => ?_
  have k : CtxOk P c ⟨N, scope, none, fs, cs⟩ (cxOf CX0 prog w K mg base N qual scope f cdv A outer s H E) := ⟨rfl, S.nd, rfl, S.kind, rfl, fun _ _ => rfl, hr, pr, PassesOwn.leaving⟩
  have hpl : ps.length ≤ N.length := by
    have := congrArg List.length S.pre
    rw [List.length_take] at this
    omega
  exact ⟨tS K Z0 (ev P n c) fn.body, (sound P n c _ _ k).ss fn.body body hck, body_ok hi hns (by omega) hsp⟩
theorem sp_law {K : PySem.W.Frag} {P : List Fn} {rc : Ev} {i : Nat} {fn : Fn} (hi : nth P i = some fn) (hps : fn.ps = 1) {H : Hp} {a : Addr} {ns : List Int} {E : XK} (hO : Only H) (hS : SqL K H a (ns.map V.int)) (hrun : ∃ st', callF P rc i [.rol ns] [] = .ok (.bl true) st') :
    spF K P rc i [.ref a] H (fun v _ => v = .bl true) E := by
  obtain ⟨st', e⟩ := hrun
  refine ⟨⟨fn, hi, hps.symm⟩, [], [.rol ns], [], ⟨rfl, List.nodup_nil, fun l a o e => by simp at e⟩, ⟨.ref a, [], rfl, ⟨a, rfl, ro_of hS hO⟩, rfl⟩, ?_⟩
  rw [e]
  exact fun μ' v H' L r S => r
/-- a def's scope, by a look -/
def scB (N ps : List Str) (sc : Scope) : Bool := decide (sc.kind = .function) && !sc.isCoroutine && !sc.isGenerator && decide N.Nodup && decide (N.take ps.length = ps) && (ps.all fun x => match sc.names.lookup x with | some .local => true | some .cell => true | _ => false) && (sc.names.all fun y => decide (y.2 ≠ .free))
theorem sc_ok {N ps : List Str} {sc : Scope} (h : scB N ps sc = true) : FnScope N ps sc := by
  obtain ⟨h, h7⟩ := b_and h
  obtain ⟨h, h6⟩ := b_and h
  obtain ⟨h, h5⟩ := b_and h
  obtain ⟨h, h4⟩ := b_and h
  obtain ⟨h, h3⟩ := b_and h
  obtain ⟨h1, h2⟩ := b_and h
  refine ⟨of_decide_eq_true h1, by simpa using h2, by simpa using h3, of_decide_eq_true h4, of_decide_eq_true h5, fun x hx => ?_, fun y hy => of_decide_eq_true (List.all_eq_true.mp h7 y hy)⟩
  have q := List.all_eq_true.mp h6 x hx
  cases e : sc.names.lookup x with
  | none => simp only [e] at q; cases q
  | some k =>
    simp only [e] at q
    cases k <;> first | exact .inl rfl | exact .inr rfl | cases q
theorem nth_cons {P : Nat → Fn → Prop} {f : Fn} {l : List Fn} {k : Nat} (h0 : P k f) (h : ∀ i fn, nth l i = some fn → P (k + 1 + i) fn) : ∀ i fn, nth (f :: l) i = some fn → P (k + i) fn := by
  intro i fn e
  cases i with
  | zero =>
    cases (show some f = some fn from e)
    exact h0
  | succ i =>
    have := h i fn e
    rwa [show k + 1 + i = k + (i + 1) by omega] at this
theorem nth_nil {P : Nat → Fn → Prop} {k : Nat} : ∀ i fn, nth ([] : List Fn) i = some fn → P (k + i) fn := fun i fn e => by cases e
theorem con_int {mg : Str → Option Value} {x : Str} {i : Int} (h : ∃ t, mg x = some (.int i t)) : ∃ v u, mg x = some u ∧ RelV v u ∧ ∀ (K : PySem.W.Frag) μ H, Rep K μ H (.int i) v := by
  obtain ⟨t, h⟩ := h
  exact ⟨.int i, _, h, ⟨t, rfl⟩, fun _ _ _ => rfl⟩
theorem con_str {mg : Str → Option Value} {x z : Str} (h : ∃ t, mg x = some (.str z t)) : ∃ v u, mg x = some u ∧ RelV v u ∧ ∀ (K : PySem.W.Frag) μ H, Rep K μ H (.str z) v := by
  obtain ⟨t, h⟩ := h
  exact ⟨.str z, _, h, ⟨t, rfl⟩, fun _ _ _ => rfl⟩
end Ev
end

section
set_option autoImplicit false
set_option Elab.async false
set_option linter.all false
set_option maxRecDepth 100000
/-! The runner, step by step, for simp. -/
namespace Ev
open PySem (Str)
section
variable {P : List Fn} {n c : Nat} {env : Env} {st : Sto} {α β : Type}
@[simp] theorem r_bind (a : α) (st : Sto) (f : α → Sto → R β) : (R.ok a st).bind f = f a st := rfl
@[simp] theorem r_val (a : α) (st : Sto) : (R.ok a st).val = .ok a st := rfl
theorem r_cong {r q : R α} (f : α → Sto → R β) (h : r = q) : r.bind f = q.bind f := by rw [h]
@[simp] theorem okO_s (a : α) (st : Sto) : okO st (some a) = .ok a st := rfl
@[simp] theorem ofB_s (b : Bool) (st : Sto) : ofB st (some b) = .ok (.bl b) st := rfl
@[simp] theorem e_var' (i : Nat) : (ev P (n + 1) c).e (.var i) env st = okO st (env.get i) := by cases c <;> rfl
@[simp] theorem e_cst' (d : D) : (ev P (n + 1) c).e (.cst d) env st = .ok d st := by cases c <;> rfl
@[simp] theorem e_glb' (x : Str) (d : D) : (ev P (n + 1) c).e (.glb x d) env st = .ok d st := by cases c <;> rfl
@[simp] theorem e_bin' (o : Bop) (a b : E) : (ev P (n + 1) c).e (.bin o a b) env st = ((ev P n c).e a env st).bind fun x st => ((ev P n c).e b env st).bind fun y st => (binop o x y st).val := by cases c <;> rfl
@[simp] theorem e_cmp' (o : Cop) (a b : E) : (ev P (n + 1) c).e (.cmp o a b) env st = ((ev P n c).e a env st).bind fun x st => ((ev P n c).e b env st).bind fun y st => ofB st (cmpop o x y st) := by cases c <;> rfl
@[simp] theorem e_and' (a b : E) : (ev P (n + 1) c).e (.and a b) env st = ((ev P n c).e a env st).bind fun x st => (match x with | .bl true => (ev P n c).e b env st | .bl false => .ok (.bl false) st | _ => .no) := by cases c <;> rfl
@[simp] theorem e_or' (a b : E) : (ev P (n + 1) c).e (.or a b) env st = ((ev P n c).e a env st).bind fun x st => (match x with | .bl false => (ev P n c).e b env st | .bl true => .ok (.bl true) st | _ => .no) := by cases c <;> rfl
@[simp] theorem e_not' (a : E) : (ev P (n + 1) c).e (.not a) env st = ((ev P n c).e a env st).bind fun x st => (match x with | .bl b => .ok (.bl (!b)) st | _ => .no) := by cases c <;> rfl
@[simp] theorem e_neg' (a : E) : (ev P (n + 1) c).e (.neg a) env st = ((ev P n c).e a env st).bind fun x st => (match x with | .int i => .ok (.int (-i)) st | _ => .no) := by cases c <;> rfl
@[simp] theorem e_ifx' (t a b : E) : (ev P (n + 1) c).e (.ifx t a b) env st = ((ev P n c).t t env st).bind fun x st => if x then (ev P n c).e a env st else (ev P n c).e b env st := by cases c <;> rfl
@[simp] theorem e_tup' (es : E) : (ev P (n + 1) c).e (.tup es) env st = ((ev P n c).es es env st).bind fun ds st => if small ds.length then .ok (.tup ds) st else .no := by cases c <;> rfl
@[simp] theorem e_lst' (es : E) : (ev P (n + 1) c).e (.lst es) env st = ((ev P n c).es es env st).bind fun ds st => if small ds.length then new (.lst ds) st else .no := by cases c <;> rfl
@[simp] theorem e_idx' (a i : E) : (ev P (n + 1) c).e (.idx a i) env st = ((ev P n c).e a env st).bind fun x st => ((ev P n c).e i env st).bind fun y st => (item x y st).val := by cases c <;> rfl
@[simp] theorem e_slc' (a lo hi : E) : (ev P (n + 1) c).e (.slc a lo hi) env st = ((ev P n c).e a env st).bind fun x st => (opt (ev P n c).e lo env st).bind fun l st => (opt (ev P n c).e hi env st).bind fun h st => (cut x l h st).val := by cases c <;> rfl
@[simp] theorem e_rpl' (a : E) (y z : Str) : (ev P (n + 1) c).e (.rpl a y z) env st = ((ev P n c).e a env st).bind fun x st => (match x with
      | .str s => if Nat.ble 1 y.length && Nat.ble (s.length + (s.length + 1) * z.length) line then .ok (.str (ofChars (rplS y.cps.toList z.cps.toList 0 s.cps.toList))) st else .no
      | _ => .no) := by cases c <;> rfl
@[simp] theorem e_call' (f : Nat) (es : E) : (ev P (n + 1) (c + 1)).e (.call f es) env st = ((ev P n (c + 1)).es es env st).bind fun ds st => callF P (ev P n c) f ds st := rfl
@[simp] theorem e_blt' (b : Blt) (es : E) : (ev P (n + 1) c).e (.blt b es) env st = (match asRng (oneE es) with
      | some as => (rngR (ev P n c).e as env st).bind fun xs st => (match b with
        | .list => if small xs.length then new (.lst xs) st else .no
        | .tuple => if small xs.length then .ok (.tup xs) st else .no
        | _ => .no)
      | none => ((ev P n c).es es env st).bind fun ds st => (bltA b ds st).val) := by cases c <;> rfl
@[simp] theorem e_mth' (m : Mth) (o es : E) : (ev P (n + 1) c).e (.mth m o es) env st = ((ev P n c).e o env st).bind fun x st => (match kdOf x st with
      | some k => if hasM k m then ((ev P n c).es es env st).bind fun ds st => (mthV k m x ds st).val else .no
      | none => .no) := by cases c <;> rfl
@[simp] theorem e_isi' (t : Ty) (e : E) : (ev P (n + 1) c).e (.isi t e) env st = ((ev P n c).e e env st).bind fun x st => ofB st (isTy t x st) := by cases c <;> rfl
@[simp] theorem e_lc' (vs : List Nat) (t : T) (it k e : E) : (ev P (n + 1) c).e (.lc vs t it k e) env st = locked (lockOf it env st) (fun st => ((ev P n c).i it env st).bind fun it st => if small it.items.length then (lcGo (ev P n c) t k e (env.wipe vs) it.src it.items [] st).bind fun ds st => new (.lst ds) st else .no) st := by cases c <;> rfl
@[simp] theorem es_nil' : (ev P (n + 1) c).es .nil env st = .ok [] st := by cases c <;> rfl
@[simp] theorem es_cons' (e q : E) : (ev P (n + 1) c).es (.cons e q) env st = ((ev P n c).e e env st).bind fun d st => ((ev P n c).es q env st).bind fun ds st => .ok (d :: ds) st := by cases c <;> rfl
@[simp] theorem t_none' : (ev P (n + 1) c).t .none env st = .ok true st := by cases c <;> rfl
@[simp] theorem t_and' (a b : E) : (ev P (n + 1) c).t (.and a b) env st = ((ev P n c).t a env st).bind fun x st => if x then (ev P n c).t b env st else .ok false st := by cases c <;> rfl
@[simp] theorem t_or' (a b : E) : (ev P (n + 1) c).t (.or a b) env st = ((ev P n c).t a env st).bind fun x st => if x then .ok true st else (ev P n c).t b env st := by cases c <;> rfl
@[simp] theorem t_not' (a : E) : (ev P (n + 1) c).t (.not a) env st = ((ev P n c).t a env st).bind fun x st => .ok (!x) st := by cases c <;> rfl
@[simp] theorem t_val' (e : E) : (ev P (n + 1) c).t (.val e) env st = ((ev P n c).e e env st).bind fun d st => okO st (truth st d) := by cases c <;> rfl
@[simp] theorem i_range' (es : E) : (ev P (n + 1) c).i (.blt .range es) env st = (rngR (ev P n c).e es env st).bind fun xs st => .ok ⟨xs, [], false⟩ st := by cases c <;> rfl
@[simp] theorem i_val' (e : E) : (ev P (n + 1) c).i (.val e) env st = ((ev P n c).e e env st).bind fun d st => okO st (itOf d st) := by cases c <;> rfl
@[simp] theorem s_skip' : (ev P (n + 1) c).s .skip env st = .ok (.nx env) st := by cases c <;> rfl
@[simp] theorem s_seq' (a b : S) : (ev P (n + 1) c).s (.seq a b) env st = ((ev P n c).s a env st).bind fun o st => (match o with | .nx env => (ev P n c).s b env st | o => .ok o st) := by cases c <;> rfl
@[simp] theorem s_exp' (e : E) : (ev P (n + 1) c).s (.exp e) env st = ((ev P n c).e e env st).bind fun _ st => .ok (.nx env) st := by cases c <;> rfl
@[simp] theorem s_ret' (e : E) : (ev P (n + 1) c).s (.ret e) env st = ((ev P n c).e e env st).bind fun d st => .ok (.rt d) st := by cases c <;> rfl
@[simp] theorem s_retn' : (ev P (n + 1) c).s .retn env st = .ok (.rt .non) st := by cases c <;> rfl
@[simp] theorem s_brk' : (ev P (n + 1) c).s .brk env st = .ok (.bk env) st := by cases c <;> rfl
@[simp] theorem s_cnt' : (ev P (n + 1) c).s .cnt env st = .ok (.ct env) st := by cases c <;> rfl
@[simp] theorem s_asg' (t : T) (e : E) : (ev P (n + 1) c).s (.asg t e) env st = ((ev P n c).e e env st).bind fun d st => (match T.take t d env with | some env => .ok (.nx env) st | none => .no) := by cases c <;> rfl
@[simp] theorem s_sto' (o i e : E) : (ev P (n + 1) c).s (.sto o i e) env st = ((ev P n c).e e env st).bind fun d st => ((ev P n c).e o env st).bind fun x st => ((ev P n c).e i env st).bind fun y st => (store x y d st).val.bind fun _ st => .ok (.nx env) st := by cases c <;> rfl
@[simp] theorem s_aug' (i : Nat) (o : Bop) (e : E) : (ev P (n + 1) c).s (.aug i o e) env st = (match env.get i with
      | some x => ((ev P n c).e e env st).bind fun y st => (iop o x y st).val.bind fun z st => .ok (.nx (env.put i z)) st
      | none => .no) := by cases c <;> rfl
@[simp] theorem s_par' (i j : Nat) (a b : E) : (ev P (n + 1) c).s (.par i j a b) env st = ((ev P n c).e a env st).bind fun x st => ((ev P n c).e b env st).bind fun y st => .ok (.nx ((env.put i x).put j y)) st := by cases c <;> rfl
@[simp] theorem s_ife' (t : E) (a b : S) : (ev P (n + 1) c).s (.ife t a b) env st = ((ev P n c).t t env st).bind fun x st => if x then (ev P n c).s a env st else (ev P n c).s b env st := by cases c <;> rfl
@[simp] theorem s_whl' (t : E) (b : S) : (ev P (n + 1) c).s (.whl t b) env st = whGo (ev P n c) t b n env st := by cases c <;> rfl
@[simp] theorem s_fr' (t : T) (it : E) (b : S) : (ev P (n + 1) c).s (.fr t it b) env st = locked (lockOf it env st) (fun st => ((ev P n c).i it env st).bind fun it st => frGo (ev P n c) t b it.src it.items env st) st := by cases c <;> rfl
@[simp] theorem locked_none (f : Sto → R α) (st : Sto) : locked none f st = f st := rfl
@[simp] theorem opt_none (f : E → Env → Sto → R D) (env : Env) (st : Sto) : opt f .none env st = .ok none st := rfl
@[simp] theorem opt_var (f : E → Env → Sto → R D) (i : Nat) (env : Env) (st : Sto) : opt f (.var i) env st = (f (.var i) env st).bind fun d st => match d with
    | .int i => .ok (some i) st
    | _ => .no := rfl
@[simp] theorem opt_cst (f : E → Env → Sto → R D) (d : D) (env : Env) (st : Sto) : opt f (.cst d) env st = (f (.cst d) env st).bind fun d st => match d with
    | .int i => .ok (some i) st
    | _ => .no := rfl
@[simp] theorem opt_bin (f : E → Env → Sto → R D) (o : Bop) (a b : E) (env : Env) (st : Sto) : opt f (.bin o a b) env st = (f (.bin o a b) env st).bind fun d st => match d with
    | .int i => .ok (some i) st
    | _ => .no := rfl
@[simp] theorem get_0 (d : Option D) (r : Env) : Env.get (d :: r) 0 = d := rfl
@[simp] theorem get_s (d : Option D) (r : Env) (i : Nat) : Env.get (d :: r) (i + 1) = Env.get r i := rfl
@[simp] theorem put_0 (d : Option D) (r : Env) (x : D) : Env.put (d :: r) 0 x = some x :: r := rfl
@[simp] theorem put_s (d : Option D) (r : Env) (i : Nat) (x : D) : Env.put (d :: r) (i + 1) x = d :: Env.put r i x := rfl
@[simp] theorem cut_0 (d : Option D) (r : Env) : Env.cut (d :: r) 0 = none :: r := rfl
@[simp] theorem cut_s (d : Option D) (r : Env) (i : Nat) : Env.cut (d :: r) (i + 1) = d :: Env.cut r i := rfl
@[simp] theorem wipe_n (env : Env) : Env.wipe env [] = env := rfl
@[simp] theorem wipe_c (env : Env) (v : Nat) (vs : List Nat) : Env.wipe env (v :: vs) = Env.cut (Env.wipe env vs) v := rfl
@[simp] theorem new_n (ds : List D) : Env.new 0 ds = [] := by cases ds <;> rfl
@[simp] theorem new_sn (n : Nat) : Env.new (n + 1) [] = none :: Env.new n [] := rfl
@[simp] theorem new_sc (n : Nat) (d : D) (ds : List D) : Env.new (n + 1) (d :: ds) = some d :: Env.new n ds := rfl
@[simp] theorem take_nm (i : Nat) (d : D) (env : Env) : T.take (.nm i) d env = some (env.put i d) := by cases d <;> rfl
@[simp] theorem take_nil (env : Env) : T.take .nil (.tup []) env = some env := rfl
@[simp] theorem take_cons (t r : T) (x : D) (xs : List D) (env : Env) : T.take (.cons t r) (.tup (x :: xs)) env = (match T.take t x env with
        | some env => T.take r (.tup xs) env
        | none => none) := rfl
@[simp] theorem sget_0 (o : O) (r : Sto) : sget (o :: r) 0 = some o := rfl
@[simp] theorem sget_s (o : O) (r : Sto) (i : Nat) : sget (o :: r) (i + 1) = sget r i := rfl
@[simp] theorem sput_0 (o p : O) (r : Sto) : sput (o :: r) 0 p = p :: r := rfl
@[simp] theorem sput_s (o p : O) (r : Sto) (i : Nat) : sput (o :: r) (i + 1) p = o :: sput r i p := rfl
theorem sget_app : ∀ (r : Sto) (o : O) (q : Sto), sget (r ++ o :: q) r.length = some o
  | [], _, _ => rfl
  | _ :: r, o, q => sget_app r o q
@[simp] theorem sget_end (r : Sto) (o : O) : sget (r ++ [o]) r.length = some o := sget_app r o []
@[simp] theorem sget_end2 (a : O) (r : Sto) (o : O) : sget (a :: (r ++ [o])) (r.length + 1) = some o := sget_app (a :: r) o []
@[simp] theorem sget_end3 (a b : O) (r : Sto) (o : O) : sget (a :: b :: (r ++ [o])) (r.length + 1 + 1) = some o := sget_app (a :: b :: r) o []
theorem sput_app : ∀ (r : Sto) (o p : O) (q : Sto), sput (r ++ o :: q) r.length p = r ++ p :: q
  | [], _, _, _ => rfl
  | a :: r, o, p, q => by
    show a :: sput (r ++ o :: q) r.length p = _
    rw [sput_app r o p q]; rfl
@[simp] theorem nth_0 {α : Type} (x : α) (r : List α) : nth (x :: r) 0 = some x := rfl
@[simp] theorem nth_s {α : Type} (x : α) (r : List α) (i : Nat) : nth (x :: r) (i + 1) = nth r i := rfl
@[simp] theorem place_nat (n k : Nat) (h : k < n) : place n (k : Int) = some k := by
  show (if Nat.blt k n then some k else none) = some k
  rw [if_pos (by simpa [Nat.blt_eq] using h)]
theorem nth_get {α : Type} : ∀ (r : List α) (k : Nat), nth r k = r[k]?
  | [], _ => by simp [nth]
  | _ :: _, 0 => rfl
  | _ :: r, k + 1 => by simpa using nth_get r k
theorem at_nat {α : Type} (xs : List α) (k : Nat) (h : k < xs.length) : at_ xs (k : Int) = some xs[k] := by
  unfold at_
  rw [place_nat _ _ h]
  simp [nth_get, h]
@[simp] theorem whGo_s (r : Ev) (t : E) (b : S) (k : Nat) (env : Env) (st : Sto) : whGo r t b (k + 1) env st = (r.t t env st).bind fun x st => if x then (r.s b env st).bind fun o st => (match o with
      | .nx env => whGo r t b k env st
      | .ct env => whGo r t b k env st
      | .bk env => .ok (.nx env) st
      | .rt d => .ok (.rt d) st) else .ok (.nx env) st := rfl
@[simp] theorem frGo_n (r : Ev) (t : T) (b : S) (env : Env) (st : Sto) : frGo r t b [] [] env st = .ok (.nx env) st := rfl
@[simp] theorem frGo_c (r : Ev) (t : T) (b : S) (x : D) (xs : List D) (env : Env) (st : Sto) : frGo r t b [] (x :: xs) env st = (match T.take t x env with
    | some env' => (r.s b env' st).bind fun o st => (match o with
      | .nx env => frGo r t b [] xs env st
      | .ct env => frGo r t b [] xs env st
      | .bk env => .ok (.nx env) st
      | .rt d => .ok (.rt d) st)
    | none => .no) := rfl
@[simp] theorem lcGo_n (r : Ev) (t : T) (k e : E) (env : Env) (acc : List D) (st : Sto) : lcGo r t k e env [] [] acc st = .ok acc.reverse st := rfl
@[simp] theorem lcGo_c (r : Ev) (t : T) (k e : E) (env : Env) (x : D) (xs acc : List D) (st : Sto) : lcGo r t k e env [] (x :: xs) acc st = (match T.take t x env with
    | some env' => (r.t k env' st).val.bind fun b st => if b then (r.e e env' st).val.bind fun d st => lcGo r t k e env [] xs (d :: acc) st else lcGo r t k e env [] xs acc st
    | none => .no) := rfl
@[simp] theorem at_0 {α : Type} (x : α) (xs : List α) : at_ (x :: xs) 0 = some x := at_nat (x :: xs) 0 (by simp)
@[simp] theorem at_1 {α : Type} (x y : α) (xs : List α) : at_ (x :: y :: xs) 1 = some y := at_nat (x :: y :: xs) 1 (by simp)
@[simp] theorem at_2 {α : Type} (x y z : α) (xs : List α) : at_ (x :: y :: z :: xs) 2 = some z := at_nat (x :: y :: z :: xs) 2 (by simp)
@[simp] theorem at_3 {α : Type} (x y z w : α) (xs : List α) : at_ (x :: y :: z :: w :: xs) 3 = some w := at_nat (x :: y :: z :: w :: xs) 3 (by simp)
@[simp] theorem place_0 (n : Nat) (h : 0 < n) : place n 0 = some 0 := place_nat n 0 h
@[simp] theorem place_1 (n : Nat) (h : 1 < n) : place n 1 = some 1 := place_nat n 1 h
/-- a test that fails is passed by -/
theorem seq_f {t : E} {a b : S} (h : (ev P (n + 1) c).t t env st = .ok false st) : (ev P (n + 3) c).s (.seq (.ife t a .skip) b) env st = (ev P (n + 2) c).s b env st := by
  rw [s_seq', s_ife', h]
  simp only [r_bind, if_false, Bool.false_eq_true, s_skip']
/-- a test that holds -/
theorem seq_t {t : E} {a b : S} (h : (ev P (n + 1) c).t t env st = .ok true st) : (ev P (n + 3) c).s (.seq (.ife t a .skip) b) env st = ((ev P (n + 1) c).s a env st).bind fun o st => (match o with | .nx env => (ev P (n + 2) c).s b env st | o => .ok o st) := by
  rw [s_seq', s_ife', h]
  simp only [r_bind, if_true]
/-- … and leaves with a value -/
theorem seq_tr {t : E} {a b : S} {d : D} {st' : Sto} (h : (ev P (n + 1) c).t t env st = .ok true st) (h2 : (ev P (n + 1) c).s a env st = .ok (.rt d) st') : (ev P (n + 3) c).s (.seq (.ife t a .skip) b) env st = .ok (.rt d) st' := by
  rw [seq_t h, h2]
  rfl
theorem seq_n {a b : S} {env' : Env} {st' : Sto} (h : (ev P n c).s a env st = .ok (.nx env') st') : (ev P (n + 1) c).s (.seq a b) env st = (ev P n c).s b env' st' := by
  rw [s_seq', h]
  rfl
theorem seq_r {a b : S} {d : D} {st' : Sto} (h : (ev P n c).s a env st = .ok (.rt d) st') : (ev P (n + 1) c).s (.seq a b) env st = .ok (.rt d) st' := by
  rw [s_seq', h]
  rfl
theorem ret_e {e : E} {d : D} {st' : Sto} (h : (ev P n c).e e env st = .ok d st') : (ev P (n + 1) c).s (.ret e) env st = .ok (.rt d) st' := by
  rw [s_ret', h]
  rfl
theorem retS {e : E} {b : S} {d : D} {st' : Sto} (h : (ev P n c).e e env st = .ok d st') : (ev P (n + 2) c).s (.seq (.ret e) b) env st = .ok (.rt d) st' := seq_r (ret_e h)
theorem asgS {i : Nat} {e : E} {b : S} {d : D} {st' : Sto} (h : (ev P n c).e e env st = .ok d st') : (ev P (n + 2) c).s (.seq (.asg (.nm i) e) b) env st = (ev P (n + 1) c).s b (env.put i d) st' := seq_n (by rw [s_asg', h]; simp)
theorem expS {e : E} {b : S} {d : D} {st' : Sto} (h : (ev P n c).e e env st = .ok d st') : (ev P (n + 2) c).s (.seq (.exp e) b) env st = (ev P (n + 1) c).s b env st' := seq_n (by rw [s_exp', h]; simp)
theorem frS {i : Nat} {it : E} {a b : S} {I : It} {env' : Env} {st1 st' : Sto} (hl : lockOf it env st = none) (hi : (ev P n c).i it env st = .ok I st1) (h : frGo (ev P n c) (.nm i) a I.src I.items env st1 = .ok (.nx env') st') : (ev P (n + 2) c).s (.seq (.fr (.nm i) it a) b) env st = (ev P (n + 1) c).s b env' st' := seq_n (by rw [s_fr', hl, locked_none, hi]; exact h)
theorem hr62 (m : Nat) (hm : m < 4611686018427387904) : inR62 (m : Int) = true := by
  unfold inR62
  simp
  omega
def onInt {β : Type} (x : D) (f : Int → β) (g : β) : β := match x with
  | .int n => f n
  | _ => g
theorem onInt_i {β : Type} (n : Int) (f : Int → β) (g : β) : onInt (.int n) f g = f n := rfl
theorem rngR1 (e : E → Env → Sto → R D) (a : E) (env : Env) (st : Sto) : rngR e (.cons a .nil) env st = (e a env st).bind fun x st => onInt x (fun n => if inR62 n then .ok (intsFrom 0 n.toNat) st else .no) .no := rfl
theorem rngR2 (e : E → Env → Sto → R D) (a : E) (env : Env) (st st' : Sto) (m : Nat) (hr : inR62 m = true) (h : e a env st = .ok (.int m) st') : rngR e (.cons a .nil) env st = .ok (intsFrom 0 m) st' := by
  rw [rngR1, h, r_bind, onInt_i, if_pos hr, Int.toNat_natCast]
theorem rng1 {a : E} {m : Nat} {st' : Sto} (h : (ev P n c).e a env st = .ok (.int m) st') (hm : m < 4611686018427387904) : (ev P (n + 1) c).i (.blt .range (.cons a .nil)) env st = .ok ⟨intsFrom 0 m, [], false⟩ st' := by
  rw [i_range', rngR2 _ a env st st' m (hr62 m hm) h, r_bind]
/-- a call over values alone -/
theorem call_low {i : Nat} {fn : Fn} {ds : List D} {st st' : Sto} {d : D} (hi : nth P i = some fn) (hl : ds.length = fn.ps) (h0 : D.lowL 0 ds = true) (e : (ev P n c).s fn.body (Env.new fn.ns ds) [] = .ok (.rt d) st') (hd : D.low 0 d = true) : callF P (ev P n c) i ds st = .ok d st := by
  rw [callF_eq hi, if_pos (by simp [hl]), if_pos h0]
  unfold body
  rw [e]
  show (match fin 0 d st' with
          | .ok d st1 => lay d st1 st
          | .ex x _ => if D.lowL 0 x.fs = true then .ex x st else .no
          | .no => .no) = _
  cases st' with
  | nil => rfl
  | cons o r =>
    have : fin 0 d (o :: r) = .ok d [] := by
      unfold fin
      rw [if_neg (by simp [slen, Nat.ble_eq]), if_pos (by rfl), if_pos hd]
      rfl
    rw [this]
    rfl
/-- a call that works on things of the store -/
theorem call_ref {i : Nat} {fn : Fn} {ds : List D} {st st1 st2 : Sto} {d : D} (hi : nth P i = some fn) (hl : ds.length = fn.ps) (h0 : D.lowL 0 ds = false) (e : (ev P n c).s fn.body (Env.new fn.ns ds) st = .ok (.rt d) (st1 ++ st2)) (h1 : st1.length = st.length) (hb : stBelow st.length st1 = true) (hd : D.low st.length d = true) : callF P (ev P n c) i ds st = .ok d st1 := by
  rw [callF_eq hi, if_pos (by simp [hl]), if_neg (by simp [h0])]
  unfold body
  rw [e]
  show fin (slen st) d (st1 ++ st2) = _
  unfold fin
  rw [slen_eq, slen_eq, ← h1, List.take_left' rfl]
  by_cases h : st2 = []
  · subst h
    rw [if_pos (by simp [Nat.ble_eq]), List.append_nil]
  · rw [if_neg (by
      have : 0 < st2.length := List.length_pos_iff.mpr h
      simp [Nat.ble_eq]; omega), if_pos (by rw [h1]; exact hb), if_pos (by rw [h1]; exact hd)]
end
end Ev
end

section
set_option Elab.async false
set_option linter.all false
set_option maxRecDepth 100000
set_option maxHeartbeats 0
namespace Hd
open PySem PySem.Spec PyProof.Rows L2
def top (i : Nat) : Stmt := PySem.Challenge.pw_turnabout_k24_plain_there_and_back.main.body.getD i (.Pass ⟨0, 0, 0, 0⟩)
abbrev s_show_plain : Stmt := top 7
abbrev s_quoted : Stmt := top 8
abbrev s_read_plain : Stmt := top 9
abbrev s_value_at : Stmt := top 10
abbrev s_integer_at : Stmt := top 11
abbrev s_text_at : Stmt := top 12
abbrev s_tuple_at : Stmt := top 13
abbrev s__law_cell : Stmt := top 15
abbrev s__law_digits : Stmt := top 16
abbrev s__law_draw : Stmt := top 17
abbrev s__law_same : Stmt := top 18
abbrev s__law_plain : Stmt := top 19
abbrev s__law_value : Stmt := top 20
abbrev s_law : Stmt := top 21
def d_show_plain : He.DefD := ⟨("show_plain", none), "show_plain", "show_plain", defArgs s_show_plain, defBody s_show_plain, defScope s_show_plain, [], []⟩
def d_quoted : He.DefD := ⟨("quoted", none), "quoted", "quoted", defArgs s_quoted, defBody s_quoted, defScope s_quoted, [], []⟩
def d_read_plain : He.DefD := ⟨("read_plain", none), "read_plain", "read_plain", defArgs s_read_plain, defBody s_read_plain, defScope s_read_plain, [], []⟩
def d_value_at : He.DefD := ⟨("value_at", none), "value_at", "value_at", defArgs s_value_at, defBody s_value_at, defScope s_value_at, [], []⟩
def d_integer_at : He.DefD := ⟨("integer_at", none), "integer_at", "integer_at", defArgs s_integer_at, defBody s_integer_at, defScope s_integer_at, [], []⟩
def d_text_at : He.DefD := ⟨("text_at", none), "text_at", "text_at", defArgs s_text_at, defBody s_text_at, defScope s_text_at, [], []⟩
def d_tuple_at : He.DefD := ⟨("tuple_at", none), "tuple_at", "tuple_at", defArgs s_tuple_at, defBody s_tuple_at, defScope s_tuple_at, [], []⟩
def d__law_cell : He.DefD := ⟨("_law_cell", none), "_law_cell", "_law_cell", defArgs s__law_cell, defBody s__law_cell, defScope s__law_cell, [], []⟩
def d__law_digits : He.DefD := ⟨("_law_digits", none), "_law_digits", "_law_digits", defArgs s__law_digits, defBody s__law_digits, defScope s__law_digits, [], []⟩
def d__law_draw : He.DefD := ⟨("_law_draw", none), "_law_draw", "_law_draw", defArgs s__law_draw, defBody s__law_draw, defScope s__law_draw, [], []⟩
def d__law_same : He.DefD := ⟨("_law_same", none), "_law_same", "_law_same", defArgs s__law_same, defBody s__law_same, defScope s__law_same, [], []⟩
def d__law_plain : He.DefD := ⟨("_law_plain", none), "_law_plain", "_law_plain", defArgs s__law_plain, defBody s__law_plain, defScope s__law_plain, [], []⟩
def d__law_value : He.DefD := ⟨("_law_value", none), "_law_value", "_law_value", defArgs s__law_value, defBody s__law_value, defScope s__law_value, [], []⟩
def d_law : He.DefD := ⟨("law", none), "law", "law", defArgs s_law, defBody s_law, defScope s_law, [], []⟩
def fn : List He.DefD := [d_show_plain, d_quoted, d_read_plain, d_value_at, d_integer_at, d_text_at, d_tuple_at, d__law_cell, d__law_digits, d__law_draw, d__law_same, d__law_plain, d__law_value, d_law]
def fa : List He.Fa := [.glo "TurnError", .glo "BadPlain", .str "FIGURES" "0123456789", .int "MOST_FIGURES" 2000, .int "MOST_BRACKETS" 40, .glo "show_plain", .glo "quoted", .glo "read_plain", .glo "value_at", .glo "integer_at", .glo "text_at", .glo "tuple_at", .glo "_law_cell", .glo "_law_digits", .glo "_law_draw", .glo "_law_same", .glo "_law_plain", .glo "_law_value", .glo "law", .free "ValueError", .free "bool", .free "int", .free "isinstance", .free "len", .free "range", .free "str", .free "super", .free "tuple", .free "list", .free "set", .free "dict", .free "sorted", .free "min", .free "max", .free "sum", .free "abs", .free "enumerate", .free "zip", .free "reversed", .free "all", .free "any", .free "ord"]
abbrev R : PySem.W.OpenRow := PySem.W.OpenLaw.row PySem.Challenge.rw_turnabout_k24_plain_there_and_back
abbrev hk : PySem.W.Hook := He.hookD 5 fa fn
def ob (s : PySem.W.SharedT) : He.AlD := He.obsDG 5 fa fn (HandSHeadRun.getT s)
theorem ob_eq (s : PySem.W.SharedT) : ob s = hk.obs s.abs := He.obsDG_eq (HandSHeadRun.getT_eq s)
def loose0 : List PySem.Str := ["__name__", "TurnError", "BadPlain", "FIGURES", "MOST_FIGURES", "MOST_BRACKETS", "show_plain", "quoted", "read_plain", "value_at", "integer_at", "text_at", "tuple_at", "_law_cell", "_law_digits", "_law_draw", "_law_same", "_law_plain", "_law_value"]
def loose : List PySem.Str := loose0
theorem run (w : World) : HandSHeadRun.RunEq R (PySem.W.view R.prog [21]) hk ob 2000 loose w := by
  intro os
  kernel_rfl
end Hd
namespace Lw
open PySem PySem.Spec L2 Ev
def b_show_plain : Ev.S := (.seq (.ife (.val (.cmp .is_ (.var 0) (.cst .non))) (.seq (.ret (.cst (.str ⟨#[78]⟩))) .skip) .skip) (.seq (.ife (.val (.cmp .is_ (.var 0) (.cst (.bl true)))) (.seq (.ret (.cst (.str ⟨#[84]⟩))) .skip) .skip) (.seq (.ife (.val (.cmp .is_ (.var 0) (.cst (.bl false)))) (.seq (.ret (.cst (.str ⟨#[70]⟩))) .skip) .skip) (.seq (.ife (.val (.isi .int (.var 0))) (.seq (.ret (.blt .str (.cons (.var 0) .nil))) .skip) .skip) (.seq (.ife (.val (.isi .str (.var 0))) (.seq (.ret (.call 1 (.cons (.var 0) .nil))) .skip) .skip) (.seq (.ret (.bin .add (.bin .add (.cst (.str ⟨#[40]⟩)) (.mth .join (.cst (.str ⟨#[32]⟩)) (.cons (.lc [1] (.nm 1) (.val (.var 0)) .none (.call 0 (.cons (.var 1) .nil))) .nil))) (.cst (.str ⟨#[41]⟩)))) .skip))))))
def f_show_plain : Ev.Fn := ⟨1, 2, b_show_plain⟩
def b_quoted : Ev.S := (.seq (.ret (.bin .add (.bin .add (.cst (.str ⟨#[34]⟩)) (.rpl (.rpl (.rpl (.var 0) ⟨#[92]⟩ ⟨#[92, 92]⟩) ⟨#[34]⟩ ⟨#[92, 34]⟩) ⟨#[10]⟩ ⟨#[92, 110]⟩)) (.cst (.str ⟨#[34]⟩)))) .skip)
def f_quoted : Ev.Fn := ⟨1, 1, b_quoted⟩
def b_read_plain : Ev.S := (.seq (.asg (.cons (.nm 1) (.cons (.nm 2) .nil)) (.call 3 (.cons (.var 0) (.cons (.cst (.int 0)) (.cons (.cst (.int 0)) .nil))))) (.seq (.ife (.val (.cmp .lt (.var 2) (.blt .len (.cons (.var 0) .nil)))) (.seq .nev .skip) .skip) (.seq (.ret (.var 1)) .skip)))
def f_read_plain : Ev.Fn := ⟨1, 3, b_read_plain⟩
def b_value_at : Ev.S := (.seq (.asg (.nm 3) (.slc (.var 0) (.var 1) (.bin .add (.var 1) (.cst (.int 1))))) (.seq (.ife (.val (.cmp .eq (.var 3) (.cst (.str ⟨#[78]⟩)))) (.seq (.ret (.tup (.cons (.cst .non) (.cons (.bin .add (.var 1) (.cst (.int 1))) .nil)))) .skip) .skip) (.seq (.ife (.val (.cmp .eq (.var 3) (.cst (.str ⟨#[84]⟩)))) (.seq (.ret (.tup (.cons (.cst (.bl true)) (.cons (.bin .add (.var 1) (.cst (.int 1))) .nil)))) .skip) .skip) (.seq (.ife (.val (.cmp .eq (.var 3) (.cst (.str ⟨#[70]⟩)))) (.seq (.ret (.tup (.cons (.cst (.bl false)) (.cons (.bin .add (.var 1) (.cst (.int 1))) .nil)))) .skip) .skip) (.seq (.ife (.val (.cmp .eq (.var 3) (.cst (.str ⟨#[34]⟩)))) (.seq (.ret (.call 5 (.cons (.var 0) (.cons (.bin .add (.var 1) (.cst (.int 1))) .nil)))) .skip) .skip) (.seq (.ife (.val (.cmp .eq (.var 3) (.cst (.str ⟨#[40]⟩)))) (.seq (.ife (.val (.cmp .eq (.var 2) (.glb "MOST_BRACKETS" (.int 40)))) (.seq .nev .skip) .skip) (.seq (.ret (.call 6 (.cons (.var 0) (.cons (.bin .add (.var 1) (.cst (.int 1))) (.cons (.bin .add (.var 2) (.cst (.int 1))) .nil))))) .skip)) .skip) (.seq (.ret (.call 4 (.cons (.var 0) (.cons (.var 1) .nil)))) .skip)))))))
def f_value_at : Ev.Fn := ⟨3, 4, b_value_at⟩
def b_integer_at : Ev.S := (.seq (.asg (.nm 2) (.ifx (.val (.cmp .eq (.slc (.var 0) (.var 1) (.bin .add (.var 1) (.cst (.int 1)))) (.cst (.str ⟨#[45]⟩)))) (.bin .add (.var 1) (.cst (.int 1))) (.var 1))) (.seq (.asg (.nm 3) (.slc (.var 0) (.var 2) (.bin .add (.var 2) (.cst (.int 1))))) (.seq (.ife (.or (.val (.cmp .eq (.var 3) (.cst (.str ⟨#[]⟩)))) (.or (.val (.cmp .notin (.var 3) (.glb "FIGURES" (.str ⟨#[48, 49, 50, 51, 52, 53, 54, 55, 56, 57]⟩)))) (.and (.val (.cmp .eq (.var 3) (.cst (.str ⟨#[48]⟩)))) (.val (.cmp .gt (.var 2) (.var 1)))))) (.seq .nev .skip) .skip) (.seq (.asg (.nm 4) (.bin .add (.var 2) (.cst (.int 1)))) (.seq (.whl (.and (.val (.cmp .ne (.slc (.var 0) (.var 4) (.bin .add (.var 4) (.cst (.int 1)))) (.cst (.str ⟨#[]⟩)))) (.val (.cmp .isin (.slc (.var 0) (.var 4) (.bin .add (.var 4) (.cst (.int 1)))) (.glb "FIGURES" (.str ⟨#[48, 49, 50, 51, 52, 53, 54, 55, 56, 57]⟩))))) (.seq (.ife (.or (.val (.cmp .eq (.var 3) (.cst (.str ⟨#[48]⟩)))) (.val (.cmp .eq (.bin .sub (.var 4) (.var 2)) (.glb "MOST_FIGURES" (.int 2000))))) (.seq .nev .skip) .skip) (.seq (.aug 4 .add (.cst (.int 1))) .skip))) (.seq (.ret (.tup (.cons (.blt .int (.cons (.slc (.var 0) (.var 1) (.var 4)) .nil)) (.cons (.var 4) .nil)))) .skip))))))
def f_integer_at : Ev.Fn := ⟨2, 5, b_integer_at⟩
def b_text_at : Ev.S := (.seq (.asg (.nm 2) (.lst .nil)) (.seq (.whl (.val (.cst (.bl true))) (.seq (.asg (.nm 3) (.mth .find (.var 0) (.cons (.cst (.str ⟨#[34]⟩)) (.cons (.var 1) .nil)))) (.seq (.asg (.nm 4) (.ifx (.val (.cmp .ge (.var 3) (.cst (.int 0)))) (.var 3) (.blt .len (.cons (.var 0) .nil)))) (.seq (.asg (.nm 5) (.mth .find (.var 0) (.cons (.cst (.str ⟨#[92]⟩)) (.cons (.var 1) (.cons (.var 4) .nil))))) (.seq (.ife (.val (.cmp .ge (.var 5) (.cst (.int 0)))) (.seq (.asg (.nm 4) (.var 5)) .skip) .skip) (.seq (.asg (.nm 6) (.mth .find (.var 0) (.cons (.cst (.str ⟨#[10]⟩)) (.cons (.var 1) (.cons (.var 4) .nil))))) (.seq (.ife (.val (.cmp .ge (.var 6) (.cst (.int 0)))) (.seq .nev .skip) .skip) (.seq (.exp (.mth .append (.var 2) (.cons (.slc (.var 0) (.var 1) (.var 4)) .nil))) (.seq (.ife (.val (.cmp .eq (.var 4) (.var 3))) (.seq (.ret (.tup (.cons (.mth .join (.cst (.str ⟨#[]⟩)) (.cons (.var 2) .nil)) (.cons (.bin .add (.var 4) (.cst (.int 1))) .nil)))) .skip) .skip) (.seq (.ife (.val (.cmp .ne (.var 4) (.var 5))) (.seq .nev .skip) .skip) (.seq (.asg (.nm 7) (.slc (.var 0) (.bin .add (.var 4) (.cst (.int 1))) (.bin .add (.var 4) (.cst (.int 2))))) (.seq (.ife (.or (.val (.cmp .notin (.var 7) (.tup (.cons (.cst (.str ⟨#[34]⟩)) (.cons (.cst (.str ⟨#[92]⟩)) (.cons (.cst (.str ⟨#[110]⟩)) .nil)))))) (.val (.cmp .eq (.var 7) (.cst (.str ⟨#[]⟩))))) (.seq .nev .skip) .skip) (.seq (.exp (.mth .append (.var 2) (.cons (.ifx (.val (.cmp .eq (.var 7) (.cst (.str ⟨#[110]⟩)))) (.cst (.str ⟨#[10]⟩)) (.var 7)) .nil))) (.seq (.asg (.nm 1) (.bin .add (.var 4) (.cst (.int 2)))) .skip)))))))))))))) .skip))
def f_text_at : Ev.Fn := ⟨2, 8, b_text_at⟩
def b_tuple_at : Ev.S := (.seq (.ife (.val (.cmp .eq (.slc (.var 0) (.var 1) (.bin .add (.var 1) (.cst (.int 1)))) (.cst (.str ⟨#[41]⟩)))) (.seq (.ret (.tup (.cons (.tup .nil) (.cons (.bin .add (.var 1) (.cst (.int 1))) .nil)))) .skip) .skip) (.seq (.asg (.nm 3) (.lst .nil)) (.seq (.whl (.val (.cst (.bl true))) (.seq (.asg (.cons (.nm 4) (.cons (.nm 1) .nil)) (.call 3 (.cons (.var 0) (.cons (.var 1) (.cons (.var 2) .nil))))) (.seq (.exp (.mth .append (.var 3) (.cons (.var 4) .nil))) (.seq (.asg (.nm 5) (.slc (.var 0) (.var 1) (.bin .add (.var 1) (.cst (.int 1))))) (.seq (.ife (.val (.cmp .eq (.var 5) (.cst (.str ⟨#[41]⟩)))) (.seq (.ret (.tup (.cons (.blt .tuple (.cons (.var 3) .nil)) (.cons (.bin .add (.var 1) (.cst (.int 1))) .nil)))) .skip) .skip) (.seq (.ife (.val (.cmp .ne (.var 5) (.cst (.str ⟨#[32]⟩)))) (.seq .nev .skip) .skip) (.seq (.aug 1 .add (.cst (.int 1))) .skip))))))) .skip)))
def f_tuple_at : Ev.Fn := ⟨3, 6, b_tuple_at⟩
def b__law_cell : Ev.S := (.seq (.ife (.val (.cmp .lt (.var 1) (.blt .len (.cons (.var 0) .nil)))) (.seq (.ret (.idx (.var 0) (.var 1))) .skip) .skip) (.seq (.ret (.cst (.int 0))) .skip))
def f__law_cell : Ev.Fn := ⟨2, 2, b__law_cell⟩
def b__law_digits : Ev.S := (.seq (.asg (.nm 3) (.lst .nil)) (.seq (.fr (.nm 4) (.blt .range (.cons (.var 1) (.cons (.var 2) .nil))) (.seq (.ife (.val (.cmp .gt (.blt .len (.cons (.var 3) .nil)) (.cst (.int 1500)))) (.seq .brk .skip) .skip) (.seq (.asg (.nm 5) (.call 7 (.cons (.var 0) (.cons (.var 4) .nil)))) (.seq (.ife (.val (.cmp .lt (.var 5) (.cst (.int 0)))) (.seq (.asg (.nm 5) (.bin .sub (.cst (.int 1)) (.bin .mul (.cst (.int 2)) (.var 5)))) .skip) .skip) (.seq (.ife (.val (.cmp .ge (.var 5) (.bin .pow (.cst (.int 10)) (.cst (.int 18))))) (.seq (.fr (.nm 6) (.blt .range (.cons (.cst (.int 60)) .nil)) (.seq (.ife (.val (.cmp .gt (.var 5) (.cst (.int 0)))) (.seq (.exp (.mth .append (.var 3) (.cons (.bin .mod (.blt .int (.cons (.var 5) .nil)) (.cst (.int 1000))) .nil))) (.seq (.asg (.nm 5) (.bin .fdiv (.var 5) (.cst (.int 1000)))) .skip)) .skip) .skip)) .skip) (.seq (.asg (.nm 7) (.bin .mod (.blt .int (.cons (.bin .add (.bin .add (.bin .mul (.var 5) (.cst (.int 48271))) (.bin .mul (.var 4) (.cst (.int 69621)))) (.cst (.int 11))) .nil)) (.cst (.int 2147483647)))) (.seq (.fr (.nm 6) (.blt .range (.cons (.cst (.int 12)) .nil)) (.seq (.asg (.nm 7) (.bin .mod (.blt .int (.cons (.bin .add (.bin .add (.bin .mul (.var 7) (.cst (.int 16807))) (.bin .mul (.cst (.int 7)) (.var 6))) (.cst (.int 1))) .nil)) (.cst (.int 2147483647)))) (.seq (.exp (.mth .append (.var 3) (.cons (.bin .mod (.blt .int (.cons (.bin .fdiv (.var 7) (.cst (.int 997))) .nil)) (.cst (.int 1000))) .nil))) .skip))) .skip))) .skip))))) (.seq (.ret (.var 3)) .skip)))
def f__law_digits : Ev.Fn := ⟨3, 8, b__law_digits⟩
def b__law_draw : Ev.S := (.seq (.asg (.nm 2) (.idx (.var 0) (.cst (.int 1)))) (.seq (.sto (.var 0) (.cst (.int 1)) (.bin .add (.var 2) (.cst (.int 1)))) (.seq (.ife (.val (.cmp .lt (.var 2) (.blt .len (.cons (.idx (.var 0) (.cst (.int 0))) .nil)))) (.seq (.ret (.bin .mod (.blt .int (.cons (.idx (.idx (.var 0) (.cst (.int 0))) (.var 2)) .nil)) (.var 1))) .skip) .skip) (.seq (.ret (.bin .mod (.blt .int (.cons (.bin .mul (.var 2) (.cst (.int 7))) .nil)) (.var 1))) .skip))))
def f__law_draw : Ev.Fn := ⟨2, 3, b__law_draw⟩
def b__law_same : Ev.S := (.seq (.ife (.val (.isi .tuple (.var 1))) (.seq (.ife (.or (.not (.val (.isi .tuple (.var 0)))) (.val (.cmp .ne (.blt .len (.cons (.var 0) .nil)) (.blt .len (.cons (.var 1) .nil))))) (.seq (.ret (.cst (.bl false))) .skip) .skip) (.seq (.fr (.nm 2) (.blt .range (.cons (.blt .len (.cons (.var 1) .nil)) .nil)) (.seq (.ife (.not (.val (.call 10 (.cons (.idx (.var 0) (.var 2)) (.cons (.idx (.var 1) (.var 2)) .nil))))) (.seq (.ret (.cst (.bl false))) .skip) .skip) .skip)) (.seq (.ret (.cst (.bl true))) .skip))) .skip) (.seq (.ife (.val (.cmp .is_ (.var 1) (.cst .non))) (.seq (.ret (.cmp .is_ (.var 0) (.cst .non))) .skip) .skip) (.seq (.ife (.val (.cmp .is_ (.var 1) (.cst (.bl true)))) (.seq (.ret (.cmp .is_ (.var 0) (.cst (.bl true)))) .skip) .skip) (.seq (.ife (.val (.cmp .is_ (.var 1) (.cst (.bl false)))) (.seq (.ret (.cmp .is_ (.var 0) (.cst (.bl false)))) .skip) .skip) (.seq (.ife (.val (.isi .int (.var 1))) (.seq (.ret (.and (.isi .int (.var 0)) (.and (.not (.isi .bool (.var 0))) (.cmp .eq (.var 0) (.var 1))))) .skip) .skip) (.seq (.ret (.and (.isi .str (.var 0)) (.cmp .eq (.var 0) (.var 1)))) .skip))))))
def f__law_same : Ev.Fn := ⟨2, 3, b__law_same⟩
def b__law_plain : Ev.S := (.seq (.ife (.val (.cmp .is_ (.var 0) (.cst .non))) (.seq (.ret (.cst (.str ⟨#[78]⟩))) .skip) .skip) (.seq (.ife (.val (.cmp .is_ (.var 0) (.cst (.bl true)))) (.seq (.ret (.cst (.str ⟨#[84]⟩))) .skip) .skip) (.seq (.ife (.val (.cmp .is_ (.var 0) (.cst (.bl false)))) (.seq (.ret (.cst (.str ⟨#[70]⟩))) .skip) .skip) (.seq (.ife (.val (.isi .int (.var 0))) (.seq (.ret (.blt .str (.cons (.var 0) .nil))) .skip) .skip) (.seq (.ife (.val (.isi .tuple (.var 0))) (.seq (.ret (.bin .add (.bin .add (.cst (.str ⟨#[40]⟩)) (.mth .join (.cst (.str ⟨#[32]⟩)) (.cons (.lc [1] (.nm 1) (.val (.var 0)) .none (.call 11 (.cons (.var 1) .nil))) .nil))) (.cst (.str ⟨#[41]⟩)))) .skip) .skip) (.seq (.ret (.bin .add (.bin .add (.cst (.str ⟨#[34]⟩)) (.rpl (.rpl (.rpl (.var 0) ⟨#[92]⟩ ⟨#[92, 92]⟩) ⟨#[34]⟩ ⟨#[92, 34]⟩) ⟨#[10]⟩ ⟨#[92, 110]⟩)) (.cst (.str ⟨#[34]⟩)))) .skip))))))
def f__law_plain : Ev.Fn := ⟨1, 2, b__law_plain⟩
def b__law_value : Ev.S := (.seq (.asg (.nm 2) (.call 9 (.cons (.var 0) (.cons (.cst (.int 9)) .nil)))) (.seq (.ife (.and (.val (.cmp .lt (.var 2) (.cst (.int 3)))) (.val (.cmp .gt (.var 1) (.cst (.int 0))))) (.seq (.ret (.blt .tuple (.cons (.lc [5] (.nm 5) (.blt .range (.cons (.call 9 (.cons (.var 0) (.cons (.cst (.int 4)) .nil))) .nil)) .none (.call 12 (.cons (.var 0) (.cons (.bin .sub (.var 1) (.cst (.int 1))) .nil)))) .nil))) .skip) .skip) (.seq (.ife (.val (.cmp .eq (.var 2) (.cst (.int 3)))) (.seq (.ret (.idx (.lst (.cons (.cst .non) (.cons (.cst (.bl true)) (.cons (.cst (.bl false)) .nil)))) (.call 9 (.cons (.var 0) (.cons (.cst (.int 3)) .nil))))) .skip) .skip) (.seq (.ife (.val (.cmp .eq (.var 2) (.cst (.int 4)))) (.seq (.asg (.nm 3) (.bin .sub (.bin .add (.bin .mul (.call 9 (.cons (.var 0) (.cons (.cst (.int 900)) .nil))) (.bin .pow (.cst (.int 10)) (.cst (.int 16)))) (.call 9 (.cons (.var 0) (.cons (.cst (.int 900)) .nil)))) (.cst (.int 450)))) (.seq (.ret (.idx (.lst (.cons (.var 3) (.cons (.bin .sub (.cst (.int 0)) (.var 3)) (.cons (.bin .add (.bin .pow (.cst (.int 10)) (.cst (.int 19))) (.var 3)) (.cons (.cst (.int 0)) .nil))))) (.call 9 (.cons (.var 0) (.cons (.cst (.int 4)) .nil))))) .skip)) .skip) (.seq (.ife (.val (.cmp .eq (.var 2) (.cst (.int 5)))) (.seq (.ret (.bin .sub (.call 9 (.cons (.var 0) (.cons (.cst (.int 30)) .nil))) (.cst (.int 15)))) .skip) .skip) (.seq (.asg (.nm 4) (.cst (.str ⟨#[32, 33, 34, 35, 36, 38, 39, 40, 41, 42, 43, 44, 45, 46, 47, 48, 49, 56, 57, 58, 59, 60, 61, 62, 63, 64, 65, 90, 91, 92, 93, 94, 95, 96, 97, 122, 123, 124, 125, 126, 10, 110, 84, 70, 78]⟩))) (.seq (.ret (.mth .join (.cst (.str ⟨#[]⟩)) (.cons (.lc [5] (.nm 5) (.blt .range (.cons (.call 9 (.cons (.var 0) (.cons (.cst (.int 9)) .nil))) .nil)) .none (.idx (.var 4) (.bin .mod (.blt .int (.cons (.call 9 (.cons (.var 0) (.cons (.cst (.int 900)) .nil))) .nil)) (.blt .len (.cons (.var 4) .nil))))) .nil))) .skip)))))))
def f__law_value : Ev.Fn := ⟨2, 6, b__law_value⟩
def b_law : Ev.S := (.seq (.asg (.nm 1) (.lst (.cons (.call 8 (.cons (.var 0) (.cons (.cst (.int 0)) (.cons (.cst (.int 63)) .nil)))) (.cons (.cst (.int 0)) .nil)))) (.seq (.fr (.nm 2) (.blt .range (.cons (.cst (.int 6)) .nil)) (.seq (.asg (.nm 3) (.call 12 (.cons (.var 1) (.cons (.cst (.int 4)) .nil)))) (.seq (.fr (.nm 4) (.blt .range (.cons (.idx (.lst (.cons (.cst (.int 0)) (.cons (.cst (.int 0)) (.cons (.cst (.int 0)) (.cons (.cst (.int 36)) .nil))))) (.call 9 (.cons (.var 1) (.cons (.cst (.int 4)) .nil)))) .nil)) (.seq (.asg (.nm 3) (.tup (.cons (.var 3) .nil))) .skip)) (.seq (.asg (.nm 5) (.call 11 (.cons (.var 3) .nil))) (.seq (.ife (.or (.not (.val (.call 10 (.cons (.call 0 (.cons (.var 3) .nil)) (.cons (.var 5) .nil))))) (.not (.val (.call 10 (.cons (.call 2 (.cons (.var 5) .nil)) (.cons (.var 3) .nil)))))) (.seq (.ret (.cst (.bl false))) .skip) .skip) .skip))))) (.seq (.ret (.cst (.bl true))) .skip)))
def f_law : Ev.Fn := ⟨1, 6, b_law⟩
def P : List Ev.Fn := [f_show_plain, f_quoted, f_read_plain, f_value_at, f_integer_at, f_text_at, f_tuple_at, f__law_cell, f__law_digits, f__law_draw, f__law_same, f__law_plain, f__law_value, f_law]
def fs : List PySem.Str := ["show_plain", "quoted", "read_plain", "value_at", "integer_at", "text_at", "tuple_at", "_law_cell", "_law_digits", "_law_draw", "_law_same", "_law_plain", "_law_value", "law"]
def cs : List (PySem.Str × Ev.D) := [("FIGURES", .str ⟨#[48, 49, 50, 51, 52, 53, 54, 55, 56, 57]⟩), ("MOST_FIGURES", .int 2000), ("MOST_BRACKETS", .int 40)]
section
variable {prog : Program} {w : World} {K : PySem.W.Frag} {h : Heap} {mg : PySem.Str → Option Value} (c : He.SaysD Hd.fa Hd.fn K) (X : K.In h) (G : h.Ns mainGlobals mg)
theorem sc_show_plain : FnScope ["value", "member"] ["value"] Hd.d_show_plain.scope := sc_ok (by decide +kernel)
theorem ck_show_plain : chkSs b_show_plain ⟨["value", "member"], Hd.d_show_plain.scope, none, fs, cs⟩ Hd.d_show_plain.body = true := by decide +kernel
theorem bn_show_plain {f : Addr} {fd : FuncData} (F : FunD K Hd.d_show_plain.name Hd.d_show_plain.qual Hd.d_show_plain.params Hd.d_show_plain.body Hd.d_show_plain.scope [] [] f fd) : Binds K fd ["value"] [] := F.bindsN fun _ _ _ _ _ _ us hl => match us, hl with | [_], _ => rfl
include c X G in
theorem ok_show_plain : DefOk prog w K mg fs cs 0 f_show_plain := by
  obtain ⟨fd, F⟩ := c.def_ 0 (d := Hd.d_show_plain) rfl
  exact ⟨"show_plain", _, fd, ["value"], ["value", "member"], _, _, _, _, _, rfl, He.glo_ok X G (c.fact 5 (f := .glo "show_plain") rfl), F, bn_show_plain F, sc_show_plain, rfl, rfl, ck_show_plain⟩
theorem sc_quoted : FnScope ["text"] ["text"] Hd.d_quoted.scope := sc_ok (by decide +kernel)
theorem ck_quoted : chkSs b_quoted ⟨["text"], Hd.d_quoted.scope, none, fs, cs⟩ Hd.d_quoted.body = true := by decide +kernel
theorem bn_quoted {f : Addr} {fd : FuncData} (F : FunD K Hd.d_quoted.name Hd.d_quoted.qual Hd.d_quoted.params Hd.d_quoted.body Hd.d_quoted.scope [] [] f fd) : Binds K fd ["text"] [] := F.bindsN fun _ _ _ _ _ _ us hl => match us, hl with | [_], _ => rfl
include c X G in
theorem ok_quoted : DefOk prog w K mg fs cs 1 f_quoted := by
  obtain ⟨fd, F⟩ := c.def_ 1 (d := Hd.d_quoted) rfl
  exact ⟨"quoted", _, fd, ["text"], ["text"], _, _, _, _, _, rfl, He.glo_ok X G (c.fact 6 (f := .glo "quoted") rfl), F, bn_quoted F, sc_quoted, rfl, rfl, ck_quoted⟩
theorem sc_read_plain : FnScope ["text", "value", "place"] ["text"] Hd.d_read_plain.scope := sc_ok (by decide +kernel)
theorem ck_read_plain : chkSs b_read_plain ⟨["text", "value", "place"], Hd.d_read_plain.scope, none, fs, cs⟩ Hd.d_read_plain.body = true := by decide +kernel
theorem bn_read_plain {f : Addr} {fd : FuncData} (F : FunD K Hd.d_read_plain.name Hd.d_read_plain.qual Hd.d_read_plain.params Hd.d_read_plain.body Hd.d_read_plain.scope [] [] f fd) : Binds K fd ["text"] [] := F.bindsN fun _ _ _ _ _ _ us hl => match us, hl with | [_], _ => rfl
include c X G in
theorem ok_read_plain : DefOk prog w K mg fs cs 2 f_read_plain := by
  obtain ⟨fd, F⟩ := c.def_ 2 (d := Hd.d_read_plain) rfl
  exact ⟨"read_plain", _, fd, ["text"], ["text", "value", "place"], _, _, _, _, _, rfl, He.glo_ok X G (c.fact 7 (f := .glo "read_plain") rfl), F, bn_read_plain F, sc_read_plain, rfl, rfl, ck_read_plain⟩
theorem sc_value_at : FnScope ["text", "place", "within", "sign"] ["text", "place", "within"] Hd.d_value_at.scope := sc_ok (by decide +kernel)
theorem ck_value_at : chkSs b_value_at ⟨["text", "place", "within", "sign"], Hd.d_value_at.scope, none, fs, cs⟩ Hd.d_value_at.body = true := by decide +kernel
theorem bn_value_at {f : Addr} {fd : FuncData} (F : FunD K Hd.d_value_at.name Hd.d_value_at.qual Hd.d_value_at.params Hd.d_value_at.body Hd.d_value_at.scope [] [] f fd) : Binds K fd ["text", "place", "within"] [] := F.bindsN fun _ _ _ _ _ _ us hl => match us, hl with | [_, _, _], _ => rfl
include c X G in
theorem ok_value_at : DefOk prog w K mg fs cs 3 f_value_at := by
  obtain ⟨fd, F⟩ := c.def_ 3 (d := Hd.d_value_at) rfl
  exact ⟨"value_at", _, fd, ["text", "place", "within"], ["text", "place", "within", "sign"], _, _, _, _, _, rfl, He.glo_ok X G (c.fact 8 (f := .glo "value_at") rfl), F, bn_value_at F, sc_value_at, rfl, rfl, ck_value_at⟩
theorem sc_integer_at : FnScope ["text", "place", "begin", "sign", "end"] ["text", "place"] Hd.d_integer_at.scope := sc_ok (by decide +kernel)
theorem ck_integer_at : chkSs b_integer_at ⟨["text", "place", "begin", "sign", "end"], Hd.d_integer_at.scope, none, fs, cs⟩ Hd.d_integer_at.body = true := by decide +kernel
theorem bn_integer_at {f : Addr} {fd : FuncData} (F : FunD K Hd.d_integer_at.name Hd.d_integer_at.qual Hd.d_integer_at.params Hd.d_integer_at.body Hd.d_integer_at.scope [] [] f fd) : Binds K fd ["text", "place"] [] := F.bindsN fun _ _ _ _ _ _ us hl => match us, hl with | [_, _], _ => rfl
include c X G in
theorem ok_integer_at : DefOk prog w K mg fs cs 4 f_integer_at := by
  obtain ⟨fd, F⟩ := c.def_ 4 (d := Hd.d_integer_at) rfl
  exact ⟨"integer_at", _, fd, ["text", "place"], ["text", "place", "begin", "sign", "end"], _, _, _, _, _, rfl, He.glo_ok X G (c.fact 9 (f := .glo "integer_at") rfl), F, bn_integer_at F, sc_integer_at, rfl, rfl, ck_integer_at⟩
theorem sc_text_at : FnScope ["text", "place", "parts", "quote", "end", "slash", "feed", "behind"] ["text", "place"] Hd.d_text_at.scope := sc_ok (by decide +kernel)
theorem ck_text_at : chkSs b_text_at ⟨["text", "place", "parts", "quote", "end", "slash", "feed", "behind"], Hd.d_text_at.scope, none, fs, cs⟩ Hd.d_text_at.body = true := by decide +kernel
theorem bn_text_at {f : Addr} {fd : FuncData} (F : FunD K Hd.d_text_at.name Hd.d_text_at.qual Hd.d_text_at.params Hd.d_text_at.body Hd.d_text_at.scope [] [] f fd) : Binds K fd ["text", "place"] [] := F.bindsN fun _ _ _ _ _ _ us hl => match us, hl with | [_, _], _ => rfl
include c X G in
theorem ok_text_at : DefOk prog w K mg fs cs 5 f_text_at := by
  obtain ⟨fd, F⟩ := c.def_ 5 (d := Hd.d_text_at) rfl
  exact ⟨"text_at", _, fd, ["text", "place"], ["text", "place", "parts", "quote", "end", "slash", "feed", "behind"], _, _, _, _, _, rfl, He.glo_ok X G (c.fact 10 (f := .glo "text_at") rfl), F, bn_text_at F, sc_text_at, rfl, rfl, ck_text_at⟩
theorem sc_tuple_at : FnScope ["text", "place", "within", "members", "member", "sign"] ["text", "place", "within"] Hd.d_tuple_at.scope := sc_ok (by decide +kernel)
theorem ck_tuple_at : chkSs b_tuple_at ⟨["text", "place", "within", "members", "member", "sign"], Hd.d_tuple_at.scope, none, fs, cs⟩ Hd.d_tuple_at.body = true := by decide +kernel
theorem bn_tuple_at {f : Addr} {fd : FuncData} (F : FunD K Hd.d_tuple_at.name Hd.d_tuple_at.qual Hd.d_tuple_at.params Hd.d_tuple_at.body Hd.d_tuple_at.scope [] [] f fd) : Binds K fd ["text", "place", "within"] [] := F.bindsN fun _ _ _ _ _ _ us hl => match us, hl with | [_, _, _], _ => rfl
include c X G in
theorem ok_tuple_at : DefOk prog w K mg fs cs 6 f_tuple_at := by
  obtain ⟨fd, F⟩ := c.def_ 6 (d := Hd.d_tuple_at) rfl
  exact ⟨"tuple_at", _, fd, ["text", "place", "within"], ["text", "place", "within", "members", "member", "sign"], _, _, _, _, _, rfl, He.glo_ok X G (c.fact 11 (f := .glo "tuple_at") rfl), F, bn_tuple_at F, sc_tuple_at, rfl, rfl, ck_tuple_at⟩
theorem sc__law_cell : FnScope ["script", "k"] ["script", "k"] Hd.d__law_cell.scope := sc_ok (by decide +kernel)
theorem ck__law_cell : chkSs b__law_cell ⟨["script", "k"], Hd.d__law_cell.scope, none, fs, cs⟩ Hd.d__law_cell.body = true := by decide +kernel
theorem bn__law_cell {f : Addr} {fd : FuncData} (F : FunD K Hd.d__law_cell.name Hd.d__law_cell.qual Hd.d__law_cell.params Hd.d__law_cell.body Hd.d__law_cell.scope [] [] f fd) : Binds K fd ["script", "k"] [] := F.bindsN fun _ _ _ _ _ _ us hl => match us, hl with | [_, _], _ => rfl
include c X G in
theorem ok__law_cell : DefOk prog w K mg fs cs 7 f__law_cell := by
  obtain ⟨fd, F⟩ := c.def_ 7 (d := Hd.d__law_cell) rfl
  exact ⟨"_law_cell", _, fd, ["script", "k"], ["script", "k"], _, _, _, _, _, rfl, He.glo_ok X G (c.fact 12 (f := .glo "_law_cell") rfl), F, bn__law_cell F, sc__law_cell, rfl, rfl, ck__law_cell⟩
theorem sc__law_digits : FnScope ["script", "first", "last", "digits", "k", "cell", "turn", "seed"] ["script", "first", "last"] Hd.d__law_digits.scope := sc_ok (by decide +kernel)
theorem ck__law_digits : chkSs b__law_digits ⟨["script", "first", "last", "digits", "k", "cell", "turn", "seed"], Hd.d__law_digits.scope, none, fs, cs⟩ Hd.d__law_digits.body = true := by decide +kernel
theorem bn__law_digits {f : Addr} {fd : FuncData} (F : FunD K Hd.d__law_digits.name Hd.d__law_digits.qual Hd.d__law_digits.params Hd.d__law_digits.body Hd.d__law_digits.scope [] [] f fd) : Binds K fd ["script", "first", "last"] [] := F.bindsN fun _ _ _ _ _ _ us hl => match us, hl with | [_, _, _], _ => rfl
include c X G in
theorem ok__law_digits : DefOk prog w K mg fs cs 8 f__law_digits := by
  obtain ⟨fd, F⟩ := c.def_ 8 (d := Hd.d__law_digits) rfl
  exact ⟨"_law_digits", _, fd, ["script", "first", "last"], ["script", "first", "last", "digits", "k", "cell", "turn", "seed"], _, _, _, _, _, rfl, He.glo_ok X G (c.fact 13 (f := .glo "_law_digits") rfl), F, bn__law_digits F, sc__law_digits, rfl, rfl, ck__law_digits⟩
theorem sc__law_draw : FnScope ["box", "many", "at"] ["box", "many"] Hd.d__law_draw.scope := sc_ok (by decide +kernel)
theorem ck__law_draw : chkSs b__law_draw ⟨["box", "many", "at"], Hd.d__law_draw.scope, none, fs, cs⟩ Hd.d__law_draw.body = true := by decide +kernel
theorem bn__law_draw {f : Addr} {fd : FuncData} (F : FunD K Hd.d__law_draw.name Hd.d__law_draw.qual Hd.d__law_draw.params Hd.d__law_draw.body Hd.d__law_draw.scope [] [] f fd) : Binds K fd ["box", "many"] [] := F.bindsN fun _ _ _ _ _ _ us hl => match us, hl with | [_, _], _ => rfl
include c X G in
theorem ok__law_draw : DefOk prog w K mg fs cs 9 f__law_draw := by
  obtain ⟨fd, F⟩ := c.def_ 9 (d := Hd.d__law_draw) rfl
  exact ⟨"_law_draw", _, fd, ["box", "many"], ["box", "many", "at"], _, _, _, _, _, rfl, He.glo_ok X G (c.fact 14 (f := .glo "_law_draw") rfl), F, bn__law_draw F, sc__law_draw, rfl, rfl, ck__law_draw⟩
theorem sc__law_same : FnScope ["actual", "due", "k"] ["actual", "due"] Hd.d__law_same.scope := sc_ok (by decide +kernel)
theorem ck__law_same : chkSs b__law_same ⟨["actual", "due", "k"], Hd.d__law_same.scope, none, fs, cs⟩ Hd.d__law_same.body = true := by decide +kernel
theorem bn__law_same {f : Addr} {fd : FuncData} (F : FunD K Hd.d__law_same.name Hd.d__law_same.qual Hd.d__law_same.params Hd.d__law_same.body Hd.d__law_same.scope [] [] f fd) : Binds K fd ["actual", "due"] [] := F.bindsN fun _ _ _ _ _ _ us hl => match us, hl with | [_, _], _ => rfl
include c X G in
theorem ok__law_same : DefOk prog w K mg fs cs 10 f__law_same := by
  obtain ⟨fd, F⟩ := c.def_ 10 (d := Hd.d__law_same) rfl
  exact ⟨"_law_same", _, fd, ["actual", "due"], ["actual", "due", "k"], _, _, _, _, _, rfl, He.glo_ok X G (c.fact 15 (f := .glo "_law_same") rfl), F, bn__law_same F, sc__law_same, rfl, rfl, ck__law_same⟩
theorem sc__law_plain : FnScope ["value", "one"] ["value"] Hd.d__law_plain.scope := sc_ok (by decide +kernel)
theorem ck__law_plain : chkSs b__law_plain ⟨["value", "one"], Hd.d__law_plain.scope, none, fs, cs⟩ Hd.d__law_plain.body = true := by decide +kernel
theorem bn__law_plain {f : Addr} {fd : FuncData} (F : FunD K Hd.d__law_plain.name Hd.d__law_plain.qual Hd.d__law_plain.params Hd.d__law_plain.body Hd.d__law_plain.scope [] [] f fd) : Binds K fd ["value"] [] := F.bindsN fun _ _ _ _ _ _ us hl => match us, hl with | [_], _ => rfl
include c X G in
theorem ok__law_plain : DefOk prog w K mg fs cs 11 f__law_plain := by
  obtain ⟨fd, F⟩ := c.def_ 11 (d := Hd.d__law_plain) rfl
  exact ⟨"_law_plain", _, fd, ["value"], ["value", "one"], _, _, _, _, _, rfl, He.glo_ok X G (c.fact 16 (f := .glo "_law_plain") rfl), F, bn__law_plain F, sc__law_plain, rfl, rfl, ck__law_plain⟩
theorem sc__law_value : FnScope ["box", "deep", "kind", "number", "signs", "k"] ["box", "deep"] Hd.d__law_value.scope := sc_ok (by decide +kernel)
theorem ck__law_value : chkSs b__law_value ⟨["box", "deep", "kind", "number", "signs", "k"], Hd.d__law_value.scope, none, fs, cs⟩ Hd.d__law_value.body = true := by decide +kernel
theorem bn__law_value {f : Addr} {fd : FuncData} (F : FunD K Hd.d__law_value.name Hd.d__law_value.qual Hd.d__law_value.params Hd.d__law_value.body Hd.d__law_value.scope [] [] f fd) : Binds K fd ["box", "deep"] [] := F.bindsN fun _ _ _ _ _ _ us hl => match us, hl with | [_, _], _ => rfl
include c X G in
theorem ok__law_value : DefOk prog w K mg fs cs 12 f__law_value := by
  obtain ⟨fd, F⟩ := c.def_ 12 (d := Hd.d__law_value) rfl
  exact ⟨"_law_value", _, fd, ["box", "deep"], ["box", "deep", "kind", "number", "signs", "k"], _, _, _, _, _, rfl, He.glo_ok X G (c.fact 17 (f := .glo "_law_value") rfl), F, bn__law_value F, sc__law_value, rfl, rfl, ck__law_value⟩
theorem sc_law : FnScope ["script", "box", "turn", "value", "k", "text"] ["script"] Hd.d_law.scope := sc_ok (by decide +kernel)
theorem ck_law : chkSs b_law ⟨["script", "box", "turn", "value", "k", "text"], Hd.d_law.scope, none, fs, cs⟩ Hd.d_law.body = true := by decide +kernel
theorem bn_law {f : Addr} {fd : FuncData} (F : FunD K Hd.d_law.name Hd.d_law.qual Hd.d_law.params Hd.d_law.body Hd.d_law.scope [] [] f fd) : Binds K fd ["script"] [] := F.bindsN fun _ _ _ _ _ _ us hl => match us, hl with | [_], _ => rfl
include c X G in
theorem ok_law : DefOk prog w K mg fs cs 13 f_law := by
  obtain ⟨fd, F⟩ := c.def_ 13 (d := Hd.d_law) rfl
  exact ⟨"law", _, fd, ["script"], ["script", "box", "turn", "value", "k", "text"], _, _, _, _, _, rfl, He.glo_ok X G (c.fact 18 (f := .glo "law") rfl), F, bn_law F, sc_law, rfl, rfl, ck_law⟩
include c X G in
theorem nth_chain : ∀ i fn, nth P i = some fn → DefOk prog w K mg fs cs i fn := by
  intro i fn e
  match i, e with
  | 0, e => cases (show some f_show_plain = some fn from e); exact ok_show_plain c X G
  | 1, e => cases (show some f_quoted = some fn from e); exact ok_quoted c X G
  | 2, e => cases (show some f_read_plain = some fn from e); exact ok_read_plain c X G
  | 3, e => cases (show some f_value_at = some fn from e); exact ok_value_at c X G
  | 4, e => cases (show some f_integer_at = some fn from e); exact ok_integer_at c X G
  | 5, e => cases (show some f_text_at = some fn from e); exact ok_text_at c X G
  | 6, e => cases (show some f_tuple_at = some fn from e); exact ok_tuple_at c X G
  | 7, e => cases (show some f__law_cell = some fn from e); exact ok__law_cell c X G
  | 8, e => cases (show some f__law_digits = some fn from e); exact ok__law_digits c X G
  | 9, e => cases (show some f__law_draw = some fn from e); exact ok__law_draw c X G
  | 10, e => cases (show some f__law_same = some fn from e); exact ok__law_same c X G
  | 11, e => cases (show some f__law_plain = some fn from e); exact ok__law_plain c X G
  | 12, e => cases (show some f__law_value = some fn from e); exact ok__law_value c X G
  | 13, e => cases (show some f_law = some fn from e); exact ok_law c X G
  | i + 14, e => exact absurd (show none = some fn from e) (by simp)
include c X G in
theorem prg : PrgOk prog w K mg P fs cs where
  len := rfl
  defs := fun i fn e => by
    have := nth_chain (prog := prog) (w := w) c X G i fn e
    exact this
  con := fun p hp => by
    simp only [cs, List.mem_cons, List.not_mem_nil, or_false] at hp
    rcases hp with rfl | rfl | rfl
    · obtain ⟨v, u, h1, h2, h3⟩ := con_str (He.str_ok X G (c.fact 2 (f := .str "FIGURES" "0123456789") rfl))
      exact ⟨v, u, h1, h2, fun μ H => h3 K μ H⟩
    · obtain ⟨v, u, h1, h2, h3⟩ := con_int (He.int_ok X G (c.fact 3 (f := .int "MOST_FIGURES" 2000) rfl))
      exact ⟨v, u, h1, h2, fun μ H => h3 K μ H⟩
    · obtain ⟨v, u, h1, h2, h3⟩ := con_int (He.int_ok X G (c.fact 4 (f := .int "MOST_BRACKETS" 40) rfl))
      exact ⟨v, u, h1, h2, fun μ H => h3 K μ H⟩
  blt := fun b hb => by
    cases b <;> first | (exact absurd hb Bool.false_ne_true) | skip
    · exact He.free_ok X G (c.fact 23 (f := .free "len") rfl)
    · exact He.free_ok X G (c.fact 24 (f := .free "range") rfl)
    · exact He.free_ok X G (c.fact 27 (f := .free "tuple") rfl)
    · exact He.free_ok X G (c.fact 28 (f := .free "list") rfl)
    · exact He.free_ok X G (c.fact 29 (f := .free "set") rfl)
    · exact He.free_ok X G (c.fact 30 (f := .free "dict") rfl)
    · exact He.free_ok X G (c.fact 31 (f := .free "sorted") rfl)
    · exact He.free_ok X G (c.fact 32 (f := .free "min") rfl)
    · exact He.free_ok X G (c.fact 33 (f := .free "max") rfl)
    · exact He.free_ok X G (c.fact 34 (f := .free "sum") rfl)
    · exact He.free_ok X G (c.fact 35 (f := .free "abs") rfl)
    · exact He.free_ok X G (c.fact 21 (f := .free "int") rfl)
    · exact He.free_ok X G (c.fact 25 (f := .free "str") rfl)
    · exact He.free_ok X G (c.fact 36 (f := .free "enumerate") rfl)
    · exact He.free_ok X G (c.fact 37 (f := .free "zip") rfl)
    · exact He.free_ok X G (c.fact 38 (f := .free "reversed") rfl)
    · exact He.free_ok X G (c.fact 39 (f := .free "all") rfl)
    · exact He.free_ok X G (c.fact 40 (f := .free "any") rfl)
    · exact He.free_ok X G (c.fact 41 (f := .free "ord") rfl)
  isi := He.free_ok X G (c.fact 22 (f := .free "isinstance") rfl)
  ty := fun t => by
    cases t
    · exact He.free_ok X G (c.fact 21 (f := .free "int") rfl)
    · exact He.free_ok X G (c.fact 25 (f := .free "str") rfl)
    · exact He.free_ok X G (c.fact 27 (f := .free "tuple") rfl)
    · exact He.free_ok X G (c.fact 20 (f := .free "bool") rfl)
    · exact He.free_ok X G (c.fact 28 (f := .free "list") rfl)
end
end Lw
end

section
set_option autoImplicit false
set_option Elab.async false
set_option linter.all false
set_option maxRecDepth 100000
namespace Lw
open Ev
open PySem (Str)
theorem draw_body (n c many : Nat) (ds : List Int) (k : Nat) (J : Sto) (hm : 0 < many) : ∃ r : Nat, r < many ∧ (ev P (n + 20) c).s b__law_draw [some (.ref 1), some (.int many), none] (.lst (ds.map .int) :: .lst [.ref 0, .int k] :: J) = .ok (.rt (.int r)) (.lst (ds.map .int) :: .lst [.ref 0, .int ((k + 1 : Nat) : Int)] :: J) := by
  have key : ∀ x : Int, ∃ r : Nat, r < many ∧ x.fmod many = r := fun x => by
    have h1 : 0 ≤ x.fmod many := Int.fmod_nonneg_of_pos x (by omega)
    have h2 : x.fmod many < many := Int.fmod_lt_of_pos x (by omega)
    exact ⟨(x.fmod many).toNat, by omega, by omega⟩
  by_cases h : k < ds.length
  · obtain ⟨r, hr, e⟩ := key ds[k]
    refine ⟨r, hr, ?_⟩
    simp [b__law_draw, item, sgetR, binop, store, setN, cmpop, bltA, walks, bltV, blt1, lenR, ltR, cmpOk, D.plain, D.pl, D.alike, D.lt, D.isNon, truth, asRng, oneE, h, at_nat, e, Nat.ne_of_gt hm]
  · obtain ⟨r, hr, e⟩ := key (k * 7)
    refine ⟨r, hr, ?_⟩
    simp [b__law_draw, item, sgetR, binop, store, setN, cmpop, bltA, walks, bltV, blt1, lenR, ltR, cmpOk, D.plain, D.pl, D.alike, D.lt, D.isNon, truth, asRng, oneE, h, mulOk, e, Nat.ne_of_gt hm]
mutual
theorem low_mono {m n : Nat} (h : m ≤ n) : ∀ {d : D}, D.low m d = true → D.low n d = true
  | .ref l, e => by
    have : l < m := by simpa [D.low] using e
    simp [D.low]; omega
  | .tup xs, e => low_monoL h (d := xs) e
  | .non, _ => rfl
  | .bl _, _ => rfl
  | .int _, _ => rfl
  | .str _, _ => rfl
  | .fn _, _ => rfl
  | .rol _, _ => rfl
theorem low_monoL {m n : Nat} (h : m ≤ n) : ∀ {d : List D}, D.lowL m d = true → D.lowL n d = true
  | [], _ => rfl
  | x :: xs, e => by
    have e : D.low m x = true ∧ D.lowL m xs = true := by simpa [D.lowL] using e
    simp [D.lowL, low_mono h e.1, low_monoL h e.2]
end
theorem lowL_all {n : Nat} : ∀ {ds : List D}, (∀ d ∈ ds, D.low n d = true) → D.lowL n ds = true
  | [], _ => rfl
  | d :: ds, h => by simp [D.lowL, h d (by simp), lowL_all (ds := ds) fun x hx => h x (by simp [hx])]
/-- the box and what lies behind it -/
def Bx (ds : List Int) (k : Nat) (J : Sto) : Sto := .lst (ds.map .int) :: .lst [.ref 0, .int k] :: J
/-- lists of plain things -/
def Jk (J : Sto) : Prop := ∀ o ∈ J, ∃ xs, o = .lst xs ∧ D.lowL 0 xs = true
theorem jk_below {n : Nat} : ∀ {J : Sto}, Jk J → stBelow n J = true
  | [], _ => rfl
  | o :: J, h => by
    obtain ⟨xs, rfl, hx⟩ := h o (by simp)
    simp [stBelow, O.low, low_monoL (Nat.zero_le n) hx, jk_below (J := J) fun p hp => h p (by simp [hp])]
theorem bx_below {ds : List Int} {k : Nat} {J : Sto} {n : Nat} (hJ : Jk J) (hn : 0 < n) : stBelow n (Bx ds k J) = true := by
  have h1 : D.lowL n (ds.map .int) = true := lowL_all fun d hd => by
    obtain ⟨i, _, rfl⟩ := List.mem_map.mp hd
    rfl
  simp [Bx, stBelow, O.low, h1, D.lowL, D.low, hn, jk_below hJ]
theorem draw (n c many : Nat) (ds : List Int) (k : Nat) (J : Sto) (hm : 0 < many) (hJ : Jk J) : ∃ r : Nat, r < many ∧ callF P (ev P (n + 20) c) 9 [.ref 1, .int many] (Bx ds k J) = .ok (.int r) (Bx ds (k + 1) J) := by
  obtain ⟨r, hr, e⟩ := draw_body n c many ds k J hm
  refine ⟨r, hr, ?_⟩
  refine call_ref (fn := f__law_draw) (st2 := []) rfl rfl rfl (by rw [List.append_nil]; exact e) (by simp [Bx]) (bx_below hJ (by simp [Bx])) rfl
end Lw
end

section
set_option autoImplicit false
set_option Elab.async false
set_option linter.all false
set_option maxRecDepth 100000
namespace Lw
open Ev
open PySem (Str)
def Leaf : D → Prop
  | .non => True
  | .bl _ => True
  | .int i => i.natAbs < 10 ^ 20
  | .str s => s.length ≤ 8
  | _ => False
def Vk : Nat → D → Prop
  | 0, d => Leaf d
  | k + 1, d => Leaf d ∨ ∃ xs, d = .tup xs ∧ xs.length ≤ 3 ∧ ∀ x ∈ xs, Vk k x
/-- a text between its quotes -/
def quo (l : List Nat) : List Nat := rplS [10] [92, 110] 0 (rplS [34] [92, 34] 0 (rplS [92] [92, 92] 0 l))
def leafT : D → List Nat
  | .non => [78]
  | .bl b => if b then [84] else [70]
  | .int i => (Str.ofString (toString i)).cps.toList
  | .str s => 34 :: (quo s.cps.toList ++ [34])
  | _ => []
def jn : List (List Nat) → List Nat
  | [] => []
  | a :: r => (match r with | [] => a | _ :: _ => a ++ 32 :: jn r)
def txt : Nat → D → List Nat
  | 0, d => leafT d
  | k + 1, d => (match d with | .tup xs => 40 :: (jn (xs.map (txt k)) ++ [41]) | d => leafT d)
theorem txt_leaf : ∀ {k : Nat} {d : D}, Leaf d → txt k d = leafT d
  | 0, _, _ => rfl
  | k + 1, d, h => by
    cases d <;> first | rfl | exact h.elim
theorem rpl_one (c : Nat) (z : List Nat) : ∀ l : List Nat, rplS [c] z 0 l = l.flatMap fun x => if x = c then z else [x]
  | [] => rfl
  | x :: r => by
    have ih := rpl_one c z r
    by_cases h : x = c
    · subst h
      simp [rplS, ih]
    · have : (x == c) = false := by simpa using h
      simp [rplS, ih, h, this]
theorem rpl_len (c : Nat) (a b : Nat) (l : List Nat) : (rplS [c] [a, b] 0 l).length ≤ 2 * l.length := by
  rw [rpl_one]
  induction l with
  | nil => simp
  | cons x r ih =>
    rw [List.flatMap_cons, List.length_append, List.length_cons]
    have : (if x = c then [a, b] else [x]).length ≤ 2 := by
      by_cases h : x = c
      · rw [if_pos h]; simp
      · rw [if_neg h]; simp
    omega
@[simp] theorem oc_app (a b : List Nat) : (ofChars a ++ ofChars b : Str) = ofChars (a ++ b) := TL.ext_tl (by rw [TL.tl_append]; rfl)
@[simp] theorem oc_len (a : List Nat) : (ofChars a : Str).length = a.length := by simp [ofChars, Str.length]
@[simp] theorem oc_tl (a : List Nat) : (ofChars a : Str).cps.toList = a := rfl
@[simp] theorem oc_mk (s : Str) : ofChars s.cps.toList = s := TL.ext_tl rfl
theorem small_of {n : Nat} (h : n ≤ 10000000) : small n = true := by
  simp [small, line, Nat.ble_eq]; omega
theorem join_jn (g : D → List Nat) : ∀ xs : List D, joinS [32] (xs.map fun x => .str (ofChars (g x))) = some (jn (xs.map g))
  | [] => rfl
  | [x] => rfl
  | x :: y :: r => by
    have ih := join_jn g (y :: r)
    simp only [List.map_cons] at ih ⊢
    rw [joinS, ih]
    simp [jn]
theorem jn_mem {l : List Nat} : ∀ {ls : List (List Nat)}, l ∈ ls → l.length ≤ (jn ls).length
  | [], h => by cases h
  | [a], h => by
    rw [List.mem_singleton.mp h]; exact Nat.le_refl _
  | a :: b :: r, h => by
    rcases List.mem_cons.mp h with rfl | h
    · simp [jn]
    · have := jn_mem h
      simp [jn] at this ⊢
      omega
theorem lc_all {P : List Fn} {n c : Nat} {e : E} {env : Env} {g : D → D} : ∀ (xs acc : List D) (st : Sto), (∀ x ∈ xs, (ev P (n + 1) c).e e (env.put 1 x) st = .ok (g x) st) → lcGo (ev P (n + 1) c) (.nm 1) .none e env [] xs acc st = .ok (acc.reverse ++ xs.map g) st
  | [], acc, st, _ => by simp
  | x :: xs, acc, st, h => by
    simp [h x (by simp)]
    rw [lc_all xs (g x :: acc) st fun y hy => h y (by simp [hy])]
    simp
theorem log_lt {i : Int} (h : i.natAbs < 10 ^ 20) : i.natAbs.log2 < 1920 := by
  by_cases z : i.natAbs = 0
  · rw [z]; decide
  · rw [Nat.log2_lt z]
    exact Nat.lt_of_lt_of_le h (Nat.le_trans (show 10 ^ 20 ≤ 2 ^ 70 by decide) (Nat.pow_le_pow_right (by decide) (by decide)))
theorem log_blt {i : Int} (h : i.natAbs < 10 ^ 20) : Nat.blt i.natAbs.log2 1920 = true := by
  simpa [Nat.blt_eq] using log_lt h
mutual
theorem v_low : ∀ {d : D} {k : Nat}, Vk k d → D.low 0 d = true
  | .tup xs, 0, h => h.elim
  | .tup xs, k + 1, h => by
    rcases h with h | ⟨ys, e, _, h⟩
    · exact h.elim
    · cases e
      exact v_lowL (ds := xs) h
  | .ref l, 0, h => h.elim
  | .ref l, k + 1, h => by
    rcases h with h | ⟨ys, e, _, h⟩
    · exact h.elim
    · cases e
  | .non, _, _ => rfl
  | .bl _, _, _ => rfl
  | .int _, _, _ => rfl
  | .str _, _, _ => rfl
  | .fn _, _, _ => rfl
  | .rol _, _, _ => rfl
theorem v_lowL : ∀ {ds : List D} {k : Nat}, (∀ d ∈ ds, Vk k d) → D.lowL 0 ds = true
  | [], _, _ => rfl
  | d :: ds, k, h => by
    simp [D.lowL, v_low (h d (by simp)), v_lowL (ds := ds) fun x hx => h x (by simp [hx])]
end
theorem guard_ok {y : Str} {a m : Nat} {l : List Nat} (h : l.length ≤ m) (h1 : m ≤ 100) (hy : y.length = 1) {z : Str} (hz : z.length = 2) : (Nat.ble 1 y.length && Nat.ble (l.length + (l.length + 1) * z.length) line) = true := by
  rw [hy, hz]
  simp [Nat.ble_eq, line]
  omega
theorem rpl_ok (n c : Nat) (a : E) (env : Env) (st : Sto) (y z : Str) (l : List Nat) (hy : y.length = 1) (hz : z.length = 2) (hl : l.length ≤ 100) (e : (ev P n c).e a env st = .ok (.str (ofChars l)) st) : (ev P (n + 1) c).e (.rpl a y z) env st = .ok (.str (ofChars (rplS y.cps.toList z.cps.toList 0 l))) st := by
  rw [e_rpl', e]
  simp only [r_bind, oc_len, oc_tl]
  rw [if_pos (guard_ok (a := 0) (Nat.le_refl _) hl hy hz)]
theorem add_ok (n c : Nat) (a b : E) (env : Env) (st : Sto) (l m : List Nat) (h : l.length + m.length ≤ 10000000) (e : (ev P n c).e a env st = .ok (.str (ofChars l)) st) (e2 : (ev P n c).e b env st = .ok (.str (ofChars m)) st) : (ev P (n + 1) c).e (.bin .add a b) env st = .ok (.str (ofChars (l ++ m))) st := by
  rw [e_bin', e]
  simp only [r_bind, e2, binop, oc_len, oc_app]
  rw [if_pos (small_of h)]
  rfl
theorem quo_len (l : List Nat) (h : l.length ≤ 8) : (rplS [92] [92, 92] 0 l).length ≤ 16 ∧ (rplS [34] [92, 34] 0 (rplS [92] [92, 92] 0 l)).length ≤ 32 ∧ (quo l).length ≤ 64 := by
  have l1 := rpl_len 92 92 92 l
  have l2 := rpl_len 34 92 34 (rplS [92] [92, 92] 0 l)
  have l3 := rpl_len 10 92 110 (rplS [34] [92, 34] 0 (rplS [92] [92, 92] 0 l))
  unfold quo
  omega
/-- a text in quotes -/
def qE (x : E) : E := .bin .add (.bin .add (.cst (.str ⟨#[34]⟩)) (.rpl (.rpl (.rpl x ⟨#[92]⟩ ⟨#[92, 92]⟩) ⟨#[34]⟩ ⟨#[92, 34]⟩) ⟨#[10]⟩ ⟨#[92, 110]⟩)) (.cst (.str ⟨#[34]⟩))
theorem qE_ok (n c : Nat) (x : E) (env : Env) (st : Sto) (s : Str) (h : s.length ≤ 8) (e : (ev P (n + 1) c).e x env st = .ok (.str s) st) : (ev P (n + 6) c).e (qE x) env st = .ok (.str (ofChars (34 :: (quo s.cps.toList ++ [34])))) st := by
  have l0 : s.cps.toList.length ≤ 8 := by simpa [Str.length] using h
  obtain ⟨l1, l2, l3⟩ := quo_len s.cps.toList l0
  have e1 := rpl_ok (n + 1) c x env st ⟨#[92]⟩ ⟨#[92, 92]⟩ s.cps.toList rfl rfl (by omega) (by rw [oc_mk]; exact e)
  have e2 := rpl_ok (n + 2) c _ env st ⟨#[34]⟩ ⟨#[92, 34]⟩ _ rfl rfl (Nat.le_trans l1 (by decide)) e1
  have e3 := rpl_ok (n + 3) c _ env st ⟨#[10]⟩ ⟨#[92, 110]⟩ _ rfl rfl (Nat.le_trans l2 (by decide)) e2
  have e4 := add_ok (n + 4) c (.cst (.str ⟨#[34]⟩)) _ env st [34] _ (by show 1 + (quo s.cps.toList).length ≤ _; omega) (e_cst' (n := n + 3) _) e3
  exact add_ok (n + 5) c _ (.cst (.str ⟨#[34]⟩)) env st _ [34] (by show (quo s.cps.toList).length + 1 + 1 ≤ _; omega) e4 (e_cst' (n := n + 4) _)
theorem quoted_call (n c : Nat) (s : Str) (h : s.length ≤ 8) (st : Sto) : callF P (ev P (n + 20) c) 1 [.str s] st = .ok (.str (ofChars (34 :: (quo s.cps.toList ++ [34])))) st := by
  refine call_low (fn := f_quoted) (st' := []) rfl rfl rfl ?_ rfl
  show (ev P (n + 20) c).s (.seq (.ret (qE (.var 0))) .skip) [some (.str s)] [] = _
  rw [s_seq', s_ret', qE_ok (n + 12) c (.var 0) _ _ s h (by simp)]
  rfl
theorem show_leaf (n c : Nat) (d : D) (h : Leaf d) (st : Sto) : callF P (ev P (n + 40) (c + 2)) 0 [d] st = .ok (.str (ofChars (leafT d))) st := by
  refine call_low (fn := f_show_plain) (st' := []) rfl rfl (by simp [D.lowL]; exact v_low (k := 0) h) ?_ rfl
  cases d with
  | tup xs => exact h.elim
  | ref l => exact h.elim
  | fn l => exact h.elim
  | rol l => exact h.elim
  | non => simp [f_show_plain, b_show_plain, cmpop, isR, truth, leafT]; rfl
  | bl b => cases b <;> simp [f_show_plain, b_show_plain, cmpop, isR, truth, leafT] <;> rfl
  | int i => simp [f_show_plain, b_show_plain, cmpop, isR, truth, leafT, isTy, asRng, oneE, bltA, walks, bltV, blt1, log_lt h]
  | str s => simp [f_show_plain, b_show_plain, cmpop, isR, truth, leafT, isTy, quoted_call _ _ s h]
end Lw
end

section
set_option autoImplicit false
set_option Elab.async false
set_option linter.all false
set_option maxRecDepth 100000
namespace Lw
open Ev
open PySem (Str)
theorem join_ok (n c : Nat) (x : E) (env : Env) (st st' : Sto) (l : Nat) (xs : List D) (g : D → List Nat) (e : (ev P (n + 1) c).e x env st = .ok (.ref l) st') (hs : sget st' l = some (.lst (xs.map fun x => .str (ofChars (g x))))) (hl : (jn (xs.map g)).length ≤ 1000000) : (ev P (n + 3) c).e (.mth .join (.cst (.str ⟨#[32]⟩)) (.cons x .nil)) env st = .ok (.str (ofChars (jn (xs.map g)))) st' := by
  rw [e_mth', e_cst']
  simp only [r_bind, kdOf, hasM, if_true, es_cons', e, es_nil', mthV, mthS, mthS1, rowOf, hs]
  rw [show chars ⟨#[32]⟩ = [32] from rfl, join_jn g xs]
  simp only []
  rw [if_pos (small_of (by show _ + 1 ≤ _; omega))]
  rfl
/-- a row in brackets -/
def rE (x : E) : E := .bin .add (.bin .add (.cst (.str ⟨#[40]⟩)) (.mth .join (.cst (.str ⟨#[32]⟩)) (.cons x .nil))) (.cst (.str ⟨#[41]⟩))
theorem rE_ok (n c : Nat) (f : Nat) (env : Env) (st : Sto) (xs : List D) (g : D → List Nat) (h0 : env.get 0 = some (.tup xs)) (h3 : xs.length ≤ 3) (hl : (jn (xs.map g)).length ≤ 1000000)
    (hf : ∀ x ∈ xs, ∀ s, (ev P (n + 2) c).e (.call f (.cons (.var 1) .nil)) ((env.cut 1).put 1 x) s = .ok (.str (ofChars (g x))) s) : (ev P (n + 7) c).e (rE (.lc [1] (.nm 1) (.val (.var 0)) .none (.call f (.cons (.var 1) .nil)))) env st = .ok (.str (ofChars (40 :: (jn (xs.map g) ++ [41])))) (st ++ [.lst (xs.map fun x => .str (ofChars (g x)))]) := by
  have e1 : (ev P (n + 3) c).e (.lc [1] (.nm 1) (.val (.var 0)) .none (.call f (.cons (.var 1) .nil))) env st = .ok (.ref st.length) (st ++ [.lst (xs.map fun x => .str (ofChars (g x)))]) := by
    have hlk : lockOf (.val (.var 0)) env st = none := by simp [lockOf, h0]
    rw [e_lc', hlk]
    simp only [locked_none, i_val', e_var', h0, okO_s, r_bind, itOf]
    rw [if_pos (small_of (by omega))]
    rw [show env.wipe [1] = env.cut 1 from rfl, lc_all (n := n + 1) (g := fun x => .str (ofChars (g x))) xs [] st fun x hx => hf x hx st]
    rfl
  have e2 := join_ok (n + 2) c _ env st _ _ xs g e1 (by simp) hl
  have e3 : (ev P (n + 6) c).e (.bin .add (.cst (.str ⟨#[40]⟩)) (.mth .join (.cst (.str ⟨#[32]⟩)) (.cons (.lc [1] (.nm 1) (.val (.var 0)) .none (.call f (.cons (.var 1) .nil))) .nil))) env st = .ok (.str (ofChars ([40] ++ jn (xs.map g)))) (st ++ [.lst (xs.map fun x => .str (ofChars (g x)))]) := by
    rw [e_bin', e_cst']
    simp only [r_bind, e2]
    rw [show (⟨#[40]⟩ : Str) = ofChars [40] from rfl]
    simp only [binop, oc_len, oc_app]
    rw [if_pos (small_of (by show 1 + _ ≤ _; omega))]
    rfl
  unfold rE
  rw [e_bin', e3]
  simp only [r_bind, e_cst']
  rw [show (⟨#[41]⟩ : Str) = ofChars [41] from rfl]
  simp only [binop, oc_len, oc_app]
  rw [if_pos (small_of (by simp; omega))]
  rfl
theorem show_all : ∀ (k n c : Nat) (d : D) (st : Sto), Vk k d → (txt k d).length ≤ 1000000 → callF P (ev P (n + 20 * k + 40) (c + k + 2)) 0 [d] st = .ok (.str (ofChars (txt k d))) st
  | 0, n, c, d, st, h, _ => show_leaf n c d h st
  | k + 1, n, c, d, st, h, hl => by
    rcases h with h | ⟨xs, rfl, h3, h⟩
    · rw [txt_leaf h]
      exact show_leaf (n + 20 * (k + 1)) (c + (k + 1)) d h st
    · have hl : (40 :: (jn (xs.map (txt k)) ++ [41])).length ≤ 1000000 := hl
      have hj : (jn (xs.map (txt k))).length + 2 ≤ 1000000 := by simpa using hl
      refine call_low (fn := f_show_plain) (st' := [.lst (xs.map fun x => .str (ofChars (txt k x)))]) rfl rfl (by simp [D.lowL, D.low]; exact v_lowL h) ?_ rfl
      have key := rE_ok (n + 20 * k + 46) (c + (k + 1) + 2) 0 [some (.tup xs), none] [] xs (txt k) rfl h3 (by omega) fun x hx s => by
        have ih := show_all k (n + 7) c x s (h x hx) (Nat.le_trans (jn_mem (l := txt k x) (ls := xs.map (txt k)) (List.mem_map_of_mem hx)) (by omega))
        rw [show n + 20 * k + 46 + 2 = (n + 7 + 20 * k + 40) + 1 by omega, show c + (k + 1) + 2 = (c + k + 2) + 1 by omega, e_call']
        simp [ih]
      have e0 : n + 20 * (k + 1) + 40 = n + 20 * k + 60 := by omega
      rw [e0]
      show (ev P (n + 20 * k + 60) (c + (k + 1) + 2)).s b_show_plain [some (.tup xs), none] [] = _
      unfold b_show_plain
      simp only [s_seq', s_ife', t_val', e_cmp', e_isi', e_var', e_cst', get_0, okO_s, r_bind, cmpop, isR, ofB_s, truth, isTy, s_skip', if_false, Bool.false_eq_true, s_ret']
      rw [show n + 20 * k + 46 + 7 = n + 20 * k + 53 from rfl] at key
      unfold rE at key
      rw [key]
      rfl
theorem plain_leaf (n c : Nat) (d : D) (h : Leaf d) (st : Sto) : callF P (ev P (n + 40) (c + 2)) 11 [d] st = .ok (.str (ofChars (leafT d))) st := by
  refine call_low (fn := f__law_plain) (st' := []) rfl rfl (by simp [D.lowL]; exact v_low (k := 0) h) ?_ rfl
  cases d with
  | tup xs => exact h.elim
  | ref l => exact h.elim
  | fn l => exact h.elim
  | rol l => exact h.elim
  | non => simp [f__law_plain, b__law_plain, cmpop, isR, truth, leafT]; rfl
  | bl b => cases b <;> simp [f__law_plain, b__law_plain, cmpop, isR, truth, leafT] <;> rfl
  | int i => simp [f__law_plain, b__law_plain, cmpop, isR, truth, leafT, isTy, asRng, oneE, bltA, walks, bltV, blt1, log_lt h]
  | str s =>
    show (ev P (n + 40) (c + 2)).s b__law_plain [some (.str s), none] [] = _
    unfold b__law_plain
    have key := qE_ok (n + 27) (c + 2) (.var 0) [some (.str s), none] [] s h (by simp)
    simp only [s_seq', s_ife', t_val', e_cmp', e_isi', e_var', e_cst', get_0, okO_s, r_bind, cmpop, isR, ofB_s, truth, isTy, s_skip', if_false, Bool.false_eq_true, s_ret']
    unfold qE at key
    rw [key]
    rfl
theorem plain_all : ∀ (k n c : Nat) (d : D) (st : Sto), Vk k d → (txt k d).length ≤ 1000000 → callF P (ev P (n + 20 * k + 40) (c + k + 2)) 11 [d] st = .ok (.str (ofChars (txt k d))) st
  | 0, n, c, d, st, h, _ => plain_leaf n c d h st
  | k + 1, n, c, d, st, h, hl => by
    rcases h with h | ⟨xs, rfl, h3, h⟩
    · rw [txt_leaf h]
      exact plain_leaf (n + 20 * (k + 1)) (c + (k + 1)) d h st
    · have hl : (40 :: (jn (xs.map (txt k)) ++ [41])).length ≤ 1000000 := hl
      have hj : (jn (xs.map (txt k))).length + 2 ≤ 1000000 := by simpa using hl
      refine call_low (fn := f__law_plain) (st' := [.lst (xs.map fun x => .str (ofChars (txt k x)))]) rfl rfl (by simp [D.lowL, D.low]; exact v_lowL h) ?_ rfl
      have key := rE_ok (n + 20 * k + 45) (c + (k + 1) + 2) 11 [some (.tup xs), none] [] xs (txt k) rfl h3 (by omega) fun x hx s => by
        have ih := plain_all k (n + 6) c x s (h x hx) (Nat.le_trans (jn_mem (l := txt k x) (ls := xs.map (txt k)) (List.mem_map_of_mem hx)) (by omega))
        rw [show n + 20 * k + 45 + 2 = (n + 6 + 20 * k + 40) + 1 by omega, show c + (k + 1) + 2 = (c + k + 2) + 1 by omega, e_call']
        simp [ih]
      have e0 : n + 20 * (k + 1) + 40 = n + 20 * k + 60 := by omega
      rw [e0]
      show (ev P (n + 20 * k + 60) (c + (k + 1) + 2)).s b__law_plain [some (.tup xs), none] [] = _
      unfold b__law_plain
      simp only [s_seq', s_ife', t_val', e_cmp', e_isi', e_var', e_cst', get_0, okO_s, r_bind, cmpop, isR, ofB_s, truth, isTy, s_skip', if_false, if_true, Bool.false_eq_true, s_ret']
      rw [show n + 20 * k + 45 + 7 = n + 20 * k + 52 from rfl] at key
      unfold rE at key
      rw [key]
      rfl
end Lw
end

section
set_option autoImplicit false
set_option Elab.async false
set_option linter.all false
set_option maxRecDepth 100000
namespace Lw
open Ev
open PySem (Str)
theorem ints_mem {x : D} : ∀ {n : Nat} {a : Int}, x ∈ intsFrom a n → ∃ k : Nat, k < n ∧ x = .int (a + k)
  | 0, a, h => by cases h
  | n + 1, a, h => by
    rcases List.mem_cons.mp h with rfl | h
    · exact ⟨0, by omega, by simp⟩
    · obtain ⟨k, hk, e⟩ := ints_mem h
      exact ⟨k + 1, by omega, by rw [e]; congr 1; omega⟩
theorem fr_all {r : Ev} {b : S} {a d : D} {st : Sto} : ∀ (xs : List D) (w : Option D), (∀ x ∈ xs, r.s b [some a, some d, some x] st = .ok (.nx [some a, some d, some x]) st) → ∃ w', frGo r (.nm 2) b [] xs [some a, some d, w] st = .ok (.nx [some a, some d, w']) st
  | [], w, _ => ⟨w, rfl⟩
  | x :: xs, w, h => by
    obtain ⟨w', e⟩ := fr_all xs (some x) fun y hy => h y (by simp [hy])
    refine ⟨w', ?_⟩
    simp [h x (by simp), e]
theorem sEq_refl (s : Str) : sEq s s = true := by simp [sEq]
theorem sameL (n c : Nat) (d : D) (h : Leaf d ∨ ∃ s, d = .str s) : (ev P (n + 40) c).s b__law_same [some d, some d, none] [] = .ok (.rt (.bl true)) [] := by
  have tf : (ev P (n + 38) c).t (.val (.isi .tuple (.var 1))) [some d, some d, none] [] = .ok false [] := by
    cases d <;> first | (simp [isTy, truth]; done) | (rcases h with h | ⟨s, h⟩ <;> first | exact h.elim | cases h)
  refine (seq_f (n := n + 37) tf).trans ?_
  cases d with
  | tup xs => rcases h with h | ⟨s, h⟩ <;> first | exact h.elim | cases h
  | ref l => rcases h with h | ⟨s, h⟩ <;> first | exact h.elim | cases h
  | fn l => rcases h with h | ⟨s, h⟩ <;> first | exact h.elim | cases h
  | rol l => rcases h with h | ⟨s, h⟩ <;> first | exact h.elim | cases h
  | non => exact seq_tr (by simp [cmpop, isR, truth]) (retS (by simp [cmpop, isR, truth]))
  | bl b =>
    refine (seq_f (by simp [cmpop, isR, truth])).trans ?_
    cases b
    · refine (seq_f (by simp [cmpop, isR, truth])).trans ?_
      exact seq_tr (by simp [cmpop, isR, truth]) (retS (by simp [cmpop, isR, truth]))
    · exact seq_tr (by simp [cmpop, isR, truth]) (retS (by simp [cmpop, isR, truth]))
  | int i =>
    refine (seq_f (by simp [cmpop, isR, truth])).trans ?_
    refine (seq_f (by simp [cmpop, isR, truth])).trans ?_
    refine (seq_f (by simp [cmpop, isR, truth])).trans ?_
    exact seq_tr (by simp [isTy, truth]) (retS (by simp [cmpop, isTy, eqR, D.plain, D.pl, D.eqv]))
  | str s =>
    refine (seq_f (by simp [cmpop, isR, truth])).trans ?_
    refine (seq_f (by simp [cmpop, isR, truth])).trans ?_
    refine (seq_f (by simp [cmpop, isR, truth])).trans ?_
    refine (seq_f (by simp [isTy, truth])).trans ?_
    exact retS (by simp [cmpop, isTy, eqR, D.plain, D.pl, D.eqv, sEq_refl])
theorem same_leaf (n c : Nat) (d : D) (h : Leaf d ∨ ∃ s, d = .str s) (st : Sto) : callF P (ev P (n + 40) c) 10 [d, d] st = .ok (.bl true) st := by
  have hp : D.low 0 d = true := by
    rcases h with h | ⟨s, rfl⟩
    · exact v_low (k := 0) h
    · rfl
  exact call_low (fn := f__law_same) (st' := []) rfl rfl (by simp [D.lowL, hp]) (sameL n c d h) rfl
end Lw
end

section
set_option autoImplicit false
set_option Elab.async false
set_option linter.all false
set_option maxRecDepth 100000
namespace Lw
open Ev
open PySem (Str)
theorem same_step (k : Nat) (ih : ∀ (n c : Nat) (d : D) (st : Sto), Vk k d → callF P (ev P (n + 20 * k + 40) (c + k + 1)) 10 [d, d] st = .ok (.bl true) st) (n c : Nat) (xs : List D) (st : Sto) (h3 : xs.length ≤ 3) (h : ∀ x ∈ xs, Vk k x) : callF P (ev P (n + 20 * k + 60) (c + k + 2)) 10 [.tup xs, .tup xs] st = .ok (.bl true) st := by
  generalize hm : n + 20 * k = m
  generalize hc : c + k = q
  have ih : ∀ x ∈ xs, callF P (ev P (m + 50) (q + 1)) 10 [x, x] [] = .ok (.bl true) [] := fun x hx => by
    have := ih (n + 10) c x [] (h x hx)
    rw [show n + 10 + 20 * k + 40 = m + 50 by omega, hc] at this
    exact this
  refine call_low (fn := f__law_same) (st' := []) rfl rfl (by simp [D.lowL, D.low]; exact v_lowL h) ?_ rfl
  show (ev P (m + 60) (q + 2)).s b__law_same [some (.tup xs), some (.tup xs), none] [] = _
  refine seq_tr (by simp [isTy, truth]) ?_
  refine (seq_f (by simp [isTy, truth, asRng, oneE, bltA, walks, bltV, blt1, lenR, cmpop, eqR, D.plain, D.pl, D.eqv])).trans ?_
  obtain ⟨w, hw⟩ := fr_all (r := ev P (m + 55) (q + 2)) (b := .seq (.ife (.not (.val (.call 10 (.cons (.idx (.var 0) (.var 2)) (.cons (.idx (.var 1) (.var 2)) .nil))))) (.seq (.ret (.cst (.bl false))) .skip) .skip) .skip) (a := .tup xs) (d := .tup xs) (st := []) (intsFrom 0 xs.length) none fun x hx => by
    obtain ⟨j, hj, rfl⟩ := ints_mem hx
    rw [show (0 : Int) + (j : Int) = (j : Int) by omega]
    refine (seq_f ?_).trans (s_skip' (n := m + 53))
    simp [item, at_nat, hj, ih, truth]
  refine (frS (I := ⟨intsFrom 0 xs.length, [], false⟩) rfl (rng1 (by simp [asRng, oneE, bltA, walks, bltV, blt1, lenR]) (by omega)) hw).trans ?_
  exact retS (by simp)
theorem same_all (k : Nat) : ∀ (n c : Nat) (d : D) (st : Sto), Vk k d → callF P (ev P (n + 20 * k + 40) (c + k + 1)) 10 [d, d] st = .ok (.bl true) st := by
  induction k with
  | zero => exact fun n c d st h => same_leaf n (c + 1) d (.inl h) st
  | succ k ih =>
    intro n c d st h
    rcases h with h | ⟨xs, rfl, h3, h⟩
    · exact same_leaf (n + 20 * (k + 1)) (c + (k + 1) + 1) d (.inl h) st
    · rw [show n + 20 * (k + 1) + 40 = n + 20 * k + 60 by omega]
      exact same_step k ih n c xs st h3 h
end Lw
end

section
set_option autoImplicit false
set_option Elab.async false
set_option linter.all false
set_option maxRecDepth 100000
namespace Lw
open Ev
open PySem (Str)
theorem bx_app (ds : List Int) (j : Nat) (J : Sto) (o : O) : Bx ds j J ++ [o] = Bx ds j (J ++ [o]) := rfl
theorem bx_len (ds : List Int) (j : Nat) (J : Sto) : (Bx ds j J).length = J.length + 2 := rfl
theorem jk_app {J : Sto} {xs : List D} (h : Jk J) (hx : D.lowL 0 xs = true) : Jk (J ++ [.lst xs]) := fun o ho => by
  rcases List.mem_append.mp ho with ho | ho
  · exact h o ho
  · exact ⟨xs, List.mem_singleton.mp ho, hx⟩
theorem bx_get (ds : List Int) (j : Nat) (J : Sto) (o : O) : sget (Bx ds j (J ++ [o])) (J.length + 2) = some o := sget_end3 _ _ J o
/-- a draw as the code writes it -/
theorem drawE (n c many : Nat) (ds : List Int) (j : Nat) (J : Sto) (env : Env) (hm : 0 < many) (hJ : Jk J) : ∃ r : Nat, r < many ∧ (ev P (n + 24) (c + 1)).e (.call 9 (.cons (.var 0) (.cons (.cst (.int many)) .nil))) (some (.ref 1) :: env) (Bx ds j J) = .ok (.int r) (Bx ds (j + 1) J) := by
  obtain ⟨r, hr, e⟩ := draw (n + 3) c many ds j J hm hJ
  refine ⟨r, hr, ?_⟩
  rw [e_call']
  simp [e]
theorem lc_loop {r : Ev} {e : E} {env : Env} {i : Nat} {ds : List Int} {J : Sto} {Q : D → Prop} (ht : ∀ env st, r.t .none env st = .ok true st) (he : ∀ x j, ∃ v j', Q v ∧ r.e e (env.put i x) (Bx ds j J) = .ok v (Bx ds j' J)) : ∀ (xs acc : List D) (j : Nat), (∀ a ∈ acc, Q a) → ∃ vs j', (∀ v ∈ vs, Q v) ∧ vs.length = xs.length + acc.length ∧ lcGo r (.nm i) .none e env [] xs acc (Bx ds j J) = .ok vs (Bx ds j' J)
  | [], acc, j, h => ⟨acc.reverse, j, fun v hv => h v (List.mem_reverse.mp hv), by simp, rfl⟩
  | x :: xs, acc, j, h => by
    obtain ⟨v, j1, hv, e1⟩ := he x j
    obtain ⟨vs, j2, h1, h2, e2⟩ := lc_loop ht he xs (v :: acc) j1 fun a ha => by
      rcases List.mem_cons.mp ha with rfl | ha
      · exact hv
      · exact h a ha
    refine ⟨vs, j2, h1, by simp at h2 ⊢; omega, ?_⟩
    simp [ht, e1, e2]
theorem ints_len : ∀ (n : Nat) (a : Int), (intsFrom a n).length = n
  | 0, _ => rfl
  | n + 1, a => by simp [intsFrom, ints_len n]
theorem join_one : ∀ (vs : List D), (∀ v ∈ vs, ∃ c, v = .str (ofChars [c])) → ∃ l, joinS [] vs = some l ∧ l.length = vs.length
  | [], _ => ⟨[], rfl, rfl⟩
  | [v], h => by
    obtain ⟨c, rfl⟩ := h v (by simp)
    exact ⟨[c], rfl, rfl⟩
  | v :: w :: r, h => by
    obtain ⟨c, rfl⟩ := h v (by simp)
    obtain ⟨l, e, hl⟩ := join_one (w :: r) fun x hx => h x (by simp [hx])
    refine ⟨c :: l, ?_, by simp at hl ⊢; omega⟩
    rw [joinS, e]
    simp
/-- the comprehension over a drawn number of turns -/
theorem lcE (n c many : Nat) (ds : List Int) (j : Nat) (J : Sto) (env : Env) (e : E) (Q : D → Prop) (hm : 0 < many) (hm2 : many ≤ 100) (hJ : Jk J)
    (he : ∀ x j, ∃ v j', Q v ∧ (ev P (n + 25) (c + 1)).e e ((Env.cut (some (.ref 1) :: env) 5).put 5 x) (Bx ds j J) = .ok v (Bx ds j' J)) : ∃ vs j', (∀ v ∈ vs, Q v) ∧ vs.length < many ∧ (ev P (n + 26) (c + 1)).e (.lc [5] (.nm 5) (.blt .range (.cons (.call 9 (.cons (.var 0) (.cons (.cst (.int many)) .nil))) .nil)) .none e) (some (.ref 1) :: env) (Bx ds j J) = .ok (.ref (J.length + 2)) (Bx ds j' (J ++ [.lst vs])) := by
  obtain ⟨r, hr, e1⟩ := drawE n c many ds j J env hm hJ
  obtain ⟨vs, j2, h1, h2, e2⟩ := lc_loop (i := 5) (fun env st => t_none') he (intsFrom 0 r) [] (j + 1) (by simp)
  refine ⟨vs, j2, h1, by simp [ints_len] at h2; omega, ?_⟩
  rw [e_lc', show lockOf (.blt .range (.cons (.call 9 (.cons (.var 0) (.cons (.cst (.int many)) .nil))) .nil)) (some (.ref 1) :: env) (Bx ds j J) = none from rfl, locked_none, rng1 e1 (by omega), r_bind]
  rw [if_pos (small_of (by simp [ints_len]; omega))]
  simp only [wipe_n, wipe_c]
  rw [e2]
  rfl
end Lw
end

section
set_option autoImplicit false
set_option Elab.async false
set_option linter.all false
set_option maxRecDepth 100000
namespace Lw
open Ev
open PySem (Str)
/-- what a body of the maker gives -/
def Gives (k : Nat) (ds : List Int) (J : Sto) (x : R Out) : Prop := ∃ v j' J', Vk k v ∧ x = .ok (.rt v) (Bx ds j' J ++ J')
theorem leaf_v {k : Nat} {d : D} (h : Leaf d) : Vk k d := by
  cases k with
  | zero => exact h
  | succ k => exact .inl h
theorem pow16 : (10 : Int) ^ 16 = 10000000000000000 := by decide
theorem pow19 : (10 : Int) ^ 19 = 10000000000000000000 := by decide
theorem three (n c : Nat) (ds : List Int) (j : Nat) (J : Sto) (env : Env) (k : Nat) (hJ : Jk J) : ∃ v j' J', Vk k v ∧ (ev P (n + 30) (c + 1)).e (.idx (.lst (.cons (.cst .non) (.cons (.cst (.bl true)) (.cons (.cst (.bl false)) .nil)))) (.call 9 (.cons (.var 0) (.cons (.cst (.int 3)) .nil)))) (some (.ref 1) :: env) (Bx ds j J) = .ok v (Bx ds j' J ++ J') := by
  have hJ' : Jk (J ++ [.lst [.non, .bl true, .bl false]]) := jk_app hJ rfl
  obtain ⟨r, hr, e⟩ := drawE (n + 5) c 3 ds j _ env (by decide) hJ'
  have e : (ev P (n + 29) (c + 1)).e (.call 9 (.cons (.var 0) (.cons (.cst (.int 3)) .nil))) (some (.ref 1) :: env) (Bx ds j (J ++ [.lst [.non, .bl true, .bl false]])) = .ok (.int r) (Bx ds (j + 1) (J ++ [.lst [.non, .bl true, .bl false]])) := e
  have a : (ev P (n + 29) (c + 1)).e (.lst (.cons (.cst .non) (.cons (.cst (.bl true)) (.cons (.cst (.bl false)) .nil)))) (some (.ref 1) :: env) (Bx ds j J) = .ok (.ref (J.length + 2)) (Bx ds j (J ++ [.lst [.non, .bl true, .bl false]])) := by
    simp [small, line, Nat.ble_eq, new]
    exact ⟨rfl, rfl⟩
  refine ⟨[D.non, .bl true, .bl false].getD r .non, j + 1, [.lst [.non, .bl true, .bl false]], ?_, ?_⟩
  · refine leaf_v ?_
    match r, hr with
    | 0, _ => trivial
    | 1, _ => trivial
    | 2, _ => trivial
  · rw [e_idx', a]
    simp only [r_bind]
    rw [e]
    simp only [r_bind, item, sgetR, bx_get]
    match r, hr with
    | 0, _ => rfl
    | 1, _ => rfl
    | 2, _ => rfl
theorem four (n c : Nat) (ds : List Int) (j : Nat) (J : Sto) (env : Env) (k : Nat) (i : Int) (h0 : 0 ≤ i + 450) (h1 : i < 9000000000000000000) (hi : env.get 2 = some (.int i)) (hJ : Jk J) : ∃ v j' J', Vk k v ∧ (ev P (n + 30) (c + 1)).e (.idx (.lst (.cons (.var 3) (.cons (.bin .sub (.cst (.int 0)) (.var 3)) (.cons (.bin .add (.bin .pow (.cst (.int 10)) (.cst (.int 19))) (.var 3)) (.cons (.cst (.int 0)) .nil))))) (.call 9 (.cons (.var 0) (.cons (.cst (.int 4)) .nil)))) (some (.ref 1) :: env) (Bx ds j J) = .ok v (Bx ds j' J ++ J') := by
  have hJ' : Jk (J ++ [.lst [.int i, .int (0 - i), .int (10 ^ 19 + i), .int 0]]) := jk_app hJ rfl
  obtain ⟨r, hr, e⟩ := drawE (n + 5) c 4 ds j _ env (by decide) hJ'
  have e : (ev P (n + 29) (c + 1)).e (.call 9 (.cons (.var 0) (.cons (.cst (.int 4)) .nil))) (some (.ref 1) :: env) (Bx ds j (J ++ [.lst [.int i, .int (0 - i), .int (10 ^ 19 + i), .int 0]])) = .ok (.int r) (Bx ds (j + 1) (J ++ [.lst [.int i, .int (0 - i), .int (10 ^ 19 + i), .int 0]])) := e
  have a : (ev P (n + 29) (c + 1)).e (.lst (.cons (.var 3) (.cons (.bin .sub (.cst (.int 0)) (.var 3)) (.cons (.bin .add (.bin .pow (.cst (.int 10)) (.cst (.int 19))) (.var 3)) (.cons (.cst (.int 0)) .nil))))) (some (.ref 1) :: env) (Bx ds j J) = .ok (.ref (J.length + 2)) (Bx ds j (J ++ [.lst [.int i, .int (0 - i), .int (10 ^ 19 + i), .int 0]])) := by
    simp [hi, binop, small, line, Nat.ble_eq, new]
    exact ⟨rfl, rfl⟩
  refine ⟨[D.int i, .int (0 - i), .int (10 ^ 19 + i), .int 0].getD r .non, j + 1, [.lst [.int i, .int (0 - i), .int (10 ^ 19 + i), .int 0]], ?_, ?_⟩
  · refine leaf_v ?_
    match r, hr with
    | 0, _ => show i.natAbs < 10 ^ 20; omega
    | 1, _ => show (0 - i).natAbs < 10 ^ 20; omega
    | 2, _ => show (10 ^ 19 + i).natAbs < 10 ^ 20; rw [pow19]; omega
    | 3, _ => show (0 : Int).natAbs < 10 ^ 20; decide
  · rw [e_idx', a]
    simp only [r_bind]
    rw [e]
    simp only [r_bind, item, sgetR, bx_get]
    match r, hr with
    | 0, _ => rfl
    | 1, _ => rfl
    | 2, _ => rfl
    | 3, _ => rfl
end Lw
end

section
set_option autoImplicit false
set_option Elab.async false
set_option linter.all false
set_option maxRecDepth 100000
namespace Lw
open Ev
open PySem (Str)
def sgn : Str := ⟨#[32, 33, 34, 35, 36, 38, 39, 40, 41, 42, 43, 44, 45, 46, 47, 48, 49, 56, 57, 58, 59, 60, 61, 62, 63, 64, 65, 90, 91, 92, 93, 94, 95, 96, 97, 122, 123, 124, 125, 126, 10, 110, 84, 70, 78]⟩
def eSign : E := .idx (.var 4) (.bin .mod (.blt .int (.cons (.call 9 (.cons (.var 0) (.cons (.cst (.int 900)) .nil))) .nil)) (.blt .len (.cons (.var 4) .nil)))
theorem pow_ok (st : Sto) : binop .pow (.int 10) (.int 16) st = .ok (.int 10000000000000000) st := by simp [binop]
theorem binop_mul (i j : Int) (st : Sto) : binop .mul (.int i) (.int j) st = if mulOk i j = true then .ok (.int (i * j)) st else .no := rfl
theorem sign_ok (n c : Nat) (ds : List Int) (j : Nat) (J : Sto) (a b d f : Option D) (hJ : Jk J) : ∃ v, (∃ x, v = .str (ofChars [x])) ∧ (ev P (n + 30) (c + 1)).e eSign [some (.ref 1), a, b, d, some (.str sgn), f] (Bx ds j J) = .ok v (Bx ds (j + 1) J) := by
  obtain ⟨r, hr, e⟩ := drawE (n + 2) c 900 ds j J [a, b, d, some (.str sgn), f] (by decide) hJ
  have e : (ev P (n + 26) (c + 1)).e (.call 9 (.cons (.var 0) (.cons (.cst (.int 900)) .nil))) [some (.ref 1), a, b, d, some (.str sgn), f] (Bx ds j J) = .ok (.int r) (Bx ds (j + 1) J) := e
  have h45 : r % 45 < 45 := Nat.mod_lt _ (by decide)
  have hf : (r : Int).fmod 45 = ((r % 45 : Nat) : Int) := by
    rw [Int.fmod_eq_emod_of_nonneg _ (by decide)]; rfl
  have hg : r % 45 < sgn.cps.toList.length := h45
  refine ⟨.str (ofChars [sgn.cps.toList[r % 45]]), ⟨_, rfl⟩, ?_⟩
  unfold eSign
  have e1 : (ev P (n + 27) (c + 1)).es (.cons (.call 9 (.cons (.var 0) (.cons (.cst (.int 900)) .nil))) .nil) [some (.ref 1), a, b, d, some (.str sgn), f] (Bx ds j J) = .ok [.int r] (Bx ds (j + 1) J) := by
    rw [es_cons', e]; simp
  have e2 : (ev P (n + 29) (c + 1)).e (.bin .mod (.blt .int (.cons (.call 9 (.cons (.var 0) (.cons (.cst (.int 900)) .nil))) .nil)) (.blt .len (.cons (.var 4) .nil))) [some (.ref 1), a, b, d, some (.str sgn), f] (Bx ds j J) = .ok (.int ((r % 45 : Nat) : Int)) (Bx ds (j + 1) J) := by
    rw [e_bin', e_blt']
    simp only [asRng, oneE, e1, r_bind, bltA, walks, bltV, blt1, r_val, if_false, Bool.false_eq_true, e_blt', es_cons', es_nil', e_var', get_0, get_s, okO_s]
    rw [show lenR (.str sgn) (Bx ds (j + 1) J) = some 45 from rfl]
    simp only [r_val, r_bind, binop]
    rw [show (((45 : Nat) : Int)) = 45 from rfl, hf]
    rfl
  rw [e_idx']
  simp only [e_var', get_0, get_s, okO_s, r_bind, e2, item]
  rw [at_nat _ _ hg]
  rfl
theorem num_ok (m q : Nat) (ds : List Int) (j : Nat) (J : Sto) (env : Env) (x y : Nat) (hx : x < 900)
    (ex : (ev P (m + 26 + 24) (q + 1)).e (.call 9 (.cons (.var 0) (.cons (.cst (.int 900)) .nil))) env (Bx ds j J) = .ok (.int x) (Bx ds (j + 1) J))
    (ey : (ev P (m + 27 + 24) (q + 1)).e (.call 9 (.cons (.var 0) (.cons (.cst (.int 900)) .nil))) env (Bx ds (j + 1) J) = .ok (.int y) (Bx ds (j + 1 + 1) J)) : (ev P (m + 53) (q + 1)).e (.bin .sub (.bin .add (.bin .mul (.call 9 (.cons (.var 0) (.cons (.cst (.int 900)) .nil))) (.bin .pow (.cst (.int 10)) (.cst (.int 16)))) (.call 9 (.cons (.var 0) (.cons (.cst (.int 900)) .nil)))) (.cst (.int 450))) env (Bx ds j J) = .ok (.int ((x : Int) * 10000000000000000 + y - 450)) (Bx ds (j + 1 + 1) J) := by
  have hmul : mulOk (x : Int) 10000000000000000 = true := by simp [mulOk]
  generalize (x : Int) = X at *
  rw [e_bin', e_bin', e_bin', show m + 50 = m + 26 + 24 from rfl, ex]
  have ep : (ev P (m + 26 + 24) (q + 1)).e (.bin .pow (.cst (.int 10)) (.cst (.int 16))) env (Bx ds (j + 1) J) = .ok (.int 10000000000000000) (Bx ds (j + 1) J) := by
    rw [e_bin', e_cst', r_bind, e_cst', r_bind, pow_ok, r_val]
  rw [r_bind, ep, r_bind, binop_mul, if_pos hmul, r_val, r_bind]
  rw [show m + 51 = m + 27 + 24 from rfl, ey, r_bind]
  generalize (y : Int) = Y
  simp only [binop, r_val, r_bind, e_cst']
theorem join0 (n c : Nat) (x : E) (env : Env) (st st' : Sto) (l : Nat) (xs : List D) (t : List Nat) (e : (ev P (n + 1) c).e x env st = .ok (.ref l) st') (hs : sget st' l = some (.lst xs)) (hj : joinS [] xs = some t) (hl : t.length ≤ 1000000) : (ev P (n + 3) c).e (.mth .join (.cst (.str ⟨#[]⟩)) (.cons x .nil)) env st = .ok (.str (ofChars t)) st' := by
  rw [e_mth', e_cst']
  simp only [r_bind, kdOf, hasM, if_true, es_cons', e, es_nil', mthV, mthS, mthS1, rowOf, hs]
  rw [show chars ⟨#[]⟩ = [] from rfl, hj]
  simp only []
  rw [if_pos (small_of (by show _ + 0 ≤ _; omega))]
  rfl
/-- the maker's body, its own calls known -/
theorem value_body (k m q : Nat) (ds : List Int) (hk : k < 100) (ih : ∀ k', k = k' + 1 → ∀ (j : Nat) (J : Sto), Jk J → ∃ v j', Vk k' v ∧ callF P (ev P (m + 51) q) 12 [.ref 1, .int k'] (Bx ds j J) = .ok v (Bx ds j' J)) (j : Nat) (J : Sto) (hJ : Jk J) : Gives k ds J ((ev P (m + 60) (q + 1)).s b__law_value [some (.ref 1), some (.int k), none, none, none, none] (Bx ds j J)) := by
  obtain ⟨r, hr, e⟩ := drawE (m + 34) q 9 ds j J [some (.int k), none, none, none, none] (by decide) hJ
  have e : (ev P (m + 58) (q + 1)).e (.call 9 (.cons (.var 0) (.cons (.cst (.int 9)) .nil))) [some (.ref 1), some (.int k), none, none, none, none] (Bx ds j J) = .ok (.int r) (Bx ds (j + 1) J) := e
  unfold b__law_value
  rw [asgS e]
  simp only [put_s, put_0]
  by_cases h1 : r < 3 ∧ 0 < k
  · obtain ⟨k', rfl⟩ : ∃ k', k = k' + 1 := ⟨k - 1, by omega⟩
    have ih := ih k' rfl
    obtain ⟨vs, j2, hv, hn, e2⟩ := lcE (m + 27) q 4 ds (j + 1) J [some (.int ((k' + 1 : Nat) : Int)), some (.int r), none, none, none] (.call 12 (.cons (.var 0) (.cons (.bin .sub (.var 1) (.cst (.int 1))) .nil))) (Vk k') (by decide) (by decide) hJ fun x j => by
      obtain ⟨v, j', hv, e⟩ := ih j J hJ
      refine ⟨v, j', hv, ?_⟩
      have e0 : ((k' + 1 : Nat) : Int) - 1 = k' := by omega
      rw [show m + 27 + 25 = (m + 51) + 1 from rfl, e_call']
      simp only [es_cons', es_nil', e_var', e_cst', e_bin', binop, cut_s, cut_0, put_s, put_0, get_0, get_s, okO_s, r_bind, r_val, e0]
      rw [e]
    refine ⟨.tup vs, j2, [.lst vs], .inr ⟨vs, rfl, by omega, hv⟩, ?_⟩
    refine seq_tr (n := m + 56) ?_ ?_
    · have : (0 : Int) < ((k' + 1 : Nat) : Int) := by omega
      have h3 : (r : Int) < 3 := by omega
      simp [cmpop, ltR, gtR, cmpOk, D.plain, D.pl, D.alike, D.lt, D.isNon, truth, this, h3]
    · refine retS ?_
      rw [e_blt']
      simp only [asRng, oneE, es_cons', es_nil']
      rw [show ((4 : Nat) : Int) = 4 from rfl] at e2
      rw [show m + 53 = m + 27 + 26 from rfl, e2]
      simp only [r_bind, bltA, walks, if_true, rowOf, bx_get, bltI]
      rw [if_pos (small_of (by omega))]
      rfl
  · have t1 : (ev P (m + 57) (q + 1)).t (.and (.val (.cmp .lt (.var 2) (.cst (.int 3)))) (.val (.cmp .gt (.var 1) (.cst (.int 0))))) [some (.ref 1), some (.int k), some (.int r), none, none, none] (Bx ds (j + 1) J) = .ok false (Bx ds (j + 1) J) := by
      by_cases h3 : r < 3
      · have hk0 : k = 0 := by omega
        have h3 : (r : Int) < 3 := by omega
        subst hk0
        simp [cmpop, ltR, gtR, cmpOk, D.plain, D.pl, D.alike, D.lt, D.isNon, truth, h3]
      · have h3 : ¬ (r : Int) < 3 := by omega
        simp [cmpop, ltR, gtR, cmpOk, D.plain, D.pl, D.alike, D.lt, D.isNon, truth, h3]
    rw [seq_f (n := m + 56) t1]
    have tq : ∀ (n : Nat) (x : Nat), (ev P (n + 3) (q + 1)).t (.val (.cmp .eq (.var 2) (.cst (.int x)))) [some (.ref 1), some (.int k), some (.int r), none, none, none] (Bx ds (j + 1) J) = .ok (decide (r = x)) (Bx ds (j + 1) J) := fun n x => by
      have hx : ((r : Int) == (x : Int)) = decide (r = x) := by
        by_cases h : r = x
        · subst h; simp
        · have h2 : ¬ (r : Int) = (x : Int) := by omega
          rw [decide_eq_false h]
          simpa using h2
      simp only [t_val', e_cmp', e_var', e_cst', get_s, get_0, okO_s, r_bind, cmpop, eqR, D.plain, D.pl, D.eqv, Bool.and_self, if_true, ofB_s, truth, hx]
    by_cases r3 : r = 3
    · obtain ⟨v, j', J', hv, e3⟩ := three (m + 24) q ds (j + 1) J [some (.int k), some (.int r), none, none, none] k hJ
      refine ⟨v, j', J', hv, ?_⟩
      refine seq_tr (n := m + 55) ?_ ?_
      · have := tq (m + 53) 3
        rw [decide_eq_true r3] at this
        exact this
      · exact retS e3
    rw [seq_f (n := m + 55) (by
      have := tq (m + 53) 3
      rw [decide_eq_false r3] at this
      exact this)]
    by_cases r4 : r = 4
    · obtain ⟨x, hx, ex⟩ := drawE (m + 26) q 900 ds (j + 1) J [some (.int k), some (.int r), none, none, none] (by decide) hJ
      obtain ⟨y, hy, ey⟩ := drawE (m + 27) q 900 ds (j + 1 + 1) J [some (.int k), some (.int r), none, none, none] (by decide) hJ
      rw [show ((900 : Nat) : Int) = 900 from rfl] at ex ey
      obtain ⟨v, j', J', hv, e3⟩ := four (m + 22) q ds (j + 1 + 1 + 1) J [some (.int k), some (.int r), some (.int ((x : Int) * 10000000000000000 + y - 450)), none, none] k ((x : Int) * 10000000000000000 + y - 450) (by omega) (by omega) rfl hJ
      refine ⟨v, j', J', hv, ?_⟩
      refine seq_tr (n := m + 54) ?_ ?_
      · have := tq (m + 52) 4
        rw [decide_eq_true r4] at this
        exact this
      · have e4 := num_ok m q ds (j + 1) J _ x y hx ex ey
        rw [asgS e4]
        exact retS e3
    rw [seq_f (n := m + 54) (by
      have := tq (m + 52) 4
      rw [decide_eq_false r4] at this
      exact this)]
    by_cases r5 : r = 5
    · obtain ⟨x, hx, ex⟩ := drawE (m + 27) q 30 ds (j + 1) J [some (.int k), some (.int r), none, none, none] (by decide) hJ
      rw [show ((30 : Nat) : Int) = 30 from rfl] at ex
      refine ⟨.int ((x : Int) - 15), j + 1 + 1, [], leaf_v (show ((x : Int) - 15).natAbs < 10 ^ 20 by omega), ?_⟩
      refine seq_tr (n := m + 53) ?_ ?_
      · have := tq (m + 51) 5
        rw [decide_eq_true r5] at this
        exact this
      · refine retS ?_
        rw [e_bin', show m + 51 = m + 27 + 24 from rfl, ex]
        simp only [r_bind, e_cst', binop, r_val, List.append_nil]
    rw [seq_f (n := m + 53) (by
      have := tq (m + 51) 5
      rw [decide_eq_false r5] at this
      exact this)]
    obtain ⟨vs, j2, hv, hn, e2⟩ := lcE (m + 24) q 9 ds (j + 1) J [some (.int k), some (.int r), none, some (.str sgn), none] eSign (fun v => ∃ x, v = .str (ofChars [x])) (by decide) (by decide) hJ fun x j => by
      obtain ⟨v, hv, e⟩ := sign_ok (m + 19) q ds j J (some (.int k)) (some (.int r)) none (some x) hJ
      exact ⟨v, j + 1, hv, e⟩
    rw [show ((9 : Nat) : Int) = 9 from rfl] at e2
    obtain ⟨l, el, hl⟩ := join_one vs hv
    refine ⟨.str (ofChars l), j2, [.lst vs], leaf_v (show (ofChars l).length ≤ 8 by rw [oc_len]; omega), ?_⟩
    refine (asgS (n := m + 53) (d := .str sgn) (e_cst' _)).trans ?_
    simp only [put_s, put_0]
    rw [show m + 24 + 26 = m + 49 + 1 from rfl] at e2
    exact retS (n := m + 52) (join0 (m + 49) (q + 1) _ _ _ _ _ vs l e2 (bx_get ds j2 J _) el (by omega))
end Lw
end

section
set_option autoImplicit false
set_option Elab.async false
set_option linter.all false
set_option maxRecDepth 100000
namespace Lw
open Ev
open PySem (Str)
theorem v_low' {k n : Nat} {d : D} (h : Vk k d) : D.low n d = true := low_mono (Nat.zero_le n) (v_low h)
theorem value_all (ds : List Int) (n q : Nat) : ∀ (k : Nat), k < 100 → ∀ (j : Nat) (J : Sto), Jk J → ∃ v j', Vk k v ∧ callF P (ev P (n + 9 * k + 60) (q + k + 1)) 12 [.ref 1, .int k] (Bx ds j J) = .ok v (Bx ds j' J)
  | k, hk, j, J, hJ => by
    have step := value_body k (n + 9 * k) (q + k) ds hk (by
      rintro k' rfl j J hJ
      have ih := value_all ds n q k' (by omega) j J hJ
      rw [show n + 9 * k' + 60 = n + 9 * (k' + 1) + 51 by omega, show q + k' + 1 = q + (k' + 1) by omega] at ih
      exact ih) j J hJ
    obtain ⟨v, j', J', hv, e⟩ := step
    refine ⟨v, j', hv, ?_⟩
    exact call_ref (fn := f__law_value) (st1 := Bx ds j' J) (st2 := J') rfl rfl rfl e (by simp [Bx]) (bx_below hJ (by simp [Bx])) (v_low' hv)
termination_by k => k
end Lw
end

section
set_option autoImplicit false
set_option Elab.async false
set_option linter.all false
set_option maxRecDepth 100000
namespace Lw
open Ev
open PySem (Str)
theorem lt_ii (a b : Int) : ltR (.int a) (.int b) = some (decide (a < b)) := by simp [ltR, cmpOk, D.plain, D.pl, D.alike, D.isNon, D.lt]
theorem gt_ii (a b : Int) : gtR (.int a) (.int b) = some (decide (b < a)) := by simp [gtR, cmpOk, D.plain, D.pl, D.alike, D.isNon, D.lt]
theorem cell (n c : Nat) (ns : List Int) (k : Nat) (st : Sto) : ∃ x : Int, callF P (ev P (n + 20) c) 7 [.rol ns, .int k] st = .ok (.int x) st := by
  by_cases h : k < ns.length
  · refine ⟨ns[k], call_low (fn := f__law_cell) (st' := []) rfl rfl rfl ?_ rfl⟩
    have : (k : Int) < ns.length := by omega
    simp [f__law_cell, b__law_cell, item, bltA, walks, bltV, blt1, lenR, cmpop, lt_ii, truth, asRng, oneE, this, at_nat, h]
  · refine ⟨0, call_low (fn := f__law_cell) (st' := []) rfl rfl rfl ?_ rfl⟩
    have : ¬ (k : Int) < ns.length := by omega
    simp [f__law_cell, b__law_cell, item, bltA, walks, bltV, blt1, lenR, cmpop, lt_ii, truth, asRng, oneE, this, h]
/-- what the digits stand in -/
def Ds (ds : List Int) : Sto := [.lst (ds.map .int)]
def En (ns : List Int) (a b c d : Option D) : Env := [some (.rol ns), some (.int 0), some (.int 63), some (.ref 0), a, b, c, d]
theorem dapp (n q : Nat) (e : E) (ns : List Int) (a b c d : Option D) (ds : List Int) (x : Int) (hl : ds.length ≤ 5000) (he : (ev P (n + 1) q).e e (En ns a b c d) (Ds ds) = .ok (.int x) (Ds ds)) : (ev P (n + 3) q).e (.mth .append (.var 3) (.cons e .nil)) (En ns a b c d) (Ds ds) = .ok .non (Ds (ds ++ [x])) := by
  have hs : sget (Ds ds) 0 = some (.lst (ds.map .int)) := rfl
  have hb : Nat.blt (ds.map D.int).length line = true := by
    rw [List.length_map]
    simp [Nat.blt_eq, line]; omega
  rw [e_mth', e_var', show Env.get (En ns a b c d) 3 = some (.ref 0) from rfl, okO_s, r_bind]
  simp only [kdOf, hs, hasM, if_true, es_cons', he, es_nil', r_bind, mthV, mthL, mthL1]
  rw [if_pos hb, r_val, Ds, Ds, sput_0, List.map_append]
  rfl
def B1 : S := .seq (.ife (.val (.cmp .gt (.var 5) (.cst (.int 0)))) (.seq (.exp (.mth .append (.var 3) (.cons (.bin .mod (.blt .int (.cons (.var 5) .nil)) (.cst (.int 1000))) .nil))) (.seq (.asg (.nm 5) (.bin .fdiv (.var 5) (.cst (.int 1000)))) .skip)) .skip) .skip
theorem b1 (n q : Nat) (ns : List Int) (a c d : Option D) (v : Int) (ds : List Int) (hl : ds.length ≤ 5000) : ∃ v' ds', ds'.length ≤ ds.length + 1 ∧ (ev P (n + 20) q).s B1 (En ns a (some (.int v)) c d) (Ds ds) = .ok (.nx (En ns a (some (.int v')) c d)) (Ds ds') := by
  have t : (ev P (n + 18) q).t (.val (.cmp .gt (.var 5) (.cst (.int 0)))) (En ns a (some (.int v)) c d) (Ds ds) = .ok (decide (0 < v)) (Ds ds) := by
    simp [En, cmpop, gt_ii, truth]
  by_cases h : 0 < v
  · refine ⟨v.fdiv 1000, ds ++ [v.fmod 1000], by simp, ?_⟩
    rw [decide_eq_true h] at t
    refine (seq_t (n := n + 17) t).trans ?_
    have e := dapp (n + 13) q (.bin .mod (.blt .int (.cons (.var 5) .nil)) (.cst (.int 1000))) ns a (some (.int v)) c d ds (v.fmod 1000) hl (by
      simp [En, asRng, oneE, bltA, walks, bltV, blt1, binop])
    rw [show n + 17 + 1 = n + 13 + 3 + 2 from rfl, expS e, show n + 13 + 3 + 1 = n + 15 + 2 from rfl, asgS (d := .int (v.fdiv 1000)) (st' := Ds (ds ++ [v.fmod 1000])) (by simp [En, binop])]
    simp [En]
  · refine ⟨v, ds, by simp, ?_⟩
    rw [decide_eq_false h] at t
    refine (seq_f (n := n + 17) t).trans ?_
    simp
theorem l1 (n q : Nat) (ns : List Int) (a d : Option D) : ∀ (xs : List D) (c : Option D) (v : Int) (ds : List Int), ds.length + xs.length ≤ 5000 → ∃ v' c' ds', ds'.length ≤ ds.length + xs.length ∧ frGo (ev P (n + 20) q) (.nm 6) B1 [] xs (En ns a (some (.int v)) c d) (Ds ds) = .ok (.nx (En ns a (some (.int v')) c' d)) (Ds ds')
  | [], c, v, ds, _ => ⟨v, c, ds, by simp, rfl⟩
  | x :: xs, c, v, ds, h => by
    rw [List.length_cons] at h
    obtain ⟨v1, ds1, h1, e1⟩ := b1 n q ns a (some x) d v ds (by omega)
    obtain ⟨v2, c2, ds2, h2, e2⟩ := l1 n q ns a d xs (some x) v1 ds1 (by omega)
    refine ⟨v2, c2, ds2, by rw [List.length_cons]; omega, ?_⟩
    rw [frGo_c, take_nm]
    simp only []
    rw [show Env.put (En ns a (some (.int v)) c d) 6 x = En ns a (some (.int v)) (some x) d from rfl, e1, r_bind]
    exact e2
def B2 : S := .seq (.asg (.nm 7) (.bin .mod (.blt .int (.cons (.bin .add (.bin .add (.bin .mul (.var 7) (.cst (.int 16807))) (.bin .mul (.cst (.int 7)) (.var 6))) (.cst (.int 1))) .nil)) (.cst (.int 2147483647)))) (.seq (.exp (.mth .append (.var 3) (.cons (.bin .mod (.blt .int (.cons (.bin .fdiv (.var 7) (.cst (.int 997))) .nil)) (.cst (.int 1000))) .nil))) .skip)
theorem mul_r {i j : Int} (h : j.natAbs < 1000000) : mulOk i j = true := by
  unfold mulOk
  rw [Bool.or_eq_true, Bool.and_eq_true, decide_eq_true_iff, decide_eq_true_iff, Bool.and_eq_true, decide_eq_true_iff, decide_eq_true_iff]
  omega
theorem mul_l {i j : Int} (h : i.natAbs < 1000000) : mulOk i j = true := by
  unfold mulOk
  rw [Bool.or_eq_true, Bool.and_eq_true, decide_eq_true_iff, decide_eq_true_iff, Bool.and_eq_true, decide_eq_true_iff, decide_eq_true_iff]
  omega
theorem mulv (n q : Nat) (x y : E) (env : Env) (st : Sto) (i j : Int) (h : i.natAbs < 1000000 ∨ j.natAbs < 1000000) (ex : (ev P n q).e x env st = .ok (.int i) st) (ey : (ev P n q).e y env st = .ok (.int j) st) : (ev P (n + 1) q).e (.bin .mul x y) env st = .ok (.int (i * j)) st := by
  rw [e_bin', ex, r_bind, ey, r_bind, binop_mul, if_pos (h.elim mul_l mul_r), r_val]
theorem addv (n q : Nat) (x y : E) (env : Env) (st : Sto) (i j : Int) (ex : (ev P n q).e x env st = .ok (.int i) st) (ey : (ev P n q).e y env st = .ok (.int j) st) : (ev P (n + 1) q).e (.bin .add x y) env st = .ok (.int (i + j)) st := by
  rw [e_bin', ex, r_bind, ey, r_bind]
  rfl
theorem subv (n q : Nat) (x y : E) (env : Env) (st : Sto) (i j : Int) (ex : (ev P n q).e x env st = .ok (.int i) st) (ey : (ev P n q).e y env st = .ok (.int j) st) : (ev P (n + 1) q).e (.bin .sub x y) env st = .ok (.int (i - j)) st := by
  rw [e_bin', ex, r_bind, ey, r_bind]
  rfl
theorem modv (n q : Nat) (x y : E) (env : Env) (st : Sto) (i j : Int) (h : (j != 0) = true) (ex : (ev P n q).e x env st = .ok (.int i) st) (ey : (ev P n q).e y env st = .ok (.int j) st) : (ev P (n + 1) q).e (.bin .mod x y) env st = .ok (.int (i.fmod j)) st := by
  rw [e_bin', ex, r_bind, ey, r_bind]
  show R.val (if (j != 0) = true then _ else _) = _
  rw [if_pos h]
  rfl
theorem divv (n q : Nat) (x y : E) (env : Env) (st : Sto) (i j : Int) (h : (j != 0 && decide (j.natAbs < 1073741824)) = true) (ex : (ev P n q).e x env st = .ok (.int i) st) (ey : (ev P n q).e y env st = .ok (.int j) st) : (ev P (n + 1) q).e (.bin .fdiv x y) env st = .ok (.int (i.fdiv j)) st := by
  rw [e_bin', ex, r_bind, ey, r_bind]
  show R.val (if (j != 0 && decide (j.natAbs < 1073741824)) = true then _ else _) = _
  rw [if_pos h]
  rfl
theorem intv (n q : Nat) (x : E) (env : Env) (st : Sto) (i : Int) (h : asRng x = none) (ex : (ev P (n + 1) q).e x env st = .ok (.int i) st) : (ev P (n + 3) q).e (.blt .int (.cons x .nil)) env st = .ok (.int i) st := by
  rw [e_blt', show oneE (.cons x .nil) = x from rfl, h]
  simp only [es_cons', ex, es_nil', r_bind]
  rfl
theorem varv (n q i : Nat) (env : Env) (st : Sto) (d : D) (h : env.get i = some d) : (ev P (n + 1) q).e (.var i) env st = .ok d st := by
  rw [e_var', h, okO_s]
theorem b2 (n q : Nat) (ns : List Int) (a b : Option D) (t v : Int) (ds : List Int) (hl : ds.length ≤ 5000) : ∃ v' x, (ev P (n + 30) q).s B2 (En ns a b (some (.int t)) (some (.int v))) (Ds ds) = .ok (.nx (En ns a b (some (.int t)) (some (.int v')))) (Ds (ds ++ [x])) := by
  have e1 := mulv (n + 22) q (.var 7) (.cst (.int 16807)) (En ns a b (some (.int t)) (some (.int v))) (Ds ds) v 16807 (.inr (by decide)) (varv _ _ _ _ _ _ rfl) (e_cst' _)
  have e2 := mulv (n + 22) q (.cst (.int 7)) (.var 6) (En ns a b (some (.int t)) (some (.int v))) (Ds ds) 7 t (.inl (by decide)) (e_cst' _) (varv _ _ _ _ _ _ rfl)
  have e3 := addv _ _ _ (.cst (.int 1)) _ _ _ 1 (addv _ _ _ _ _ _ _ _ e1 e2) (e_cst' _)
  have e4 := modv (n + 27) _ _ (.cst (.int 2147483647)) _ _ _ 2147483647 (by decide) (intv _ _ _ _ _ _ rfl e3) (e_cst' _)
  refine ⟨(v * 16807 + 7 * t + 1).fmod 2147483647, (((v * 16807 + 7 * t + 1).fmod 2147483647).fdiv 997).fmod 1000, ?_⟩
  unfold B2
  rw [show n + 30 = n + 27 + 1 + 2 from rfl, asgS e4]
  generalize (v * 16807 + 7 * t + 1).fmod 2147483647 = w
  have f1 := divv (n + 20) q (.var 7) (.cst (.int 997)) (En ns a b (some (.int t)) (some (.int w))) (Ds ds) w 997 (by decide) (varv _ _ _ _ _ _ rfl) (e_cst' _)
  have f2 := modv (n + 23) _ _ (.cst (.int 1000)) _ _ _ 1000 (by decide) (intv _ _ _ _ _ _ rfl f1) (e_cst' _)
  have f3 := dapp (n + 23) q _ ns a b _ _ ds _ hl f2
  show (ev P (n + 23 + 3 + 2 + 1) q).s _ (En ns a b (some (.int t)) (some (.int w))) (Ds ds) = _
  rw [show n + 23 + 3 + 2 + 1 = n + 24 + 3 + 2 from rfl]
  have f3 : (ev P (n + 24 + 3) q).e _ _ _ = _ := dapp (n + 24) q _ ns a b (some (.int t)) (some (.int w)) ds _ hl (modv (n + 24) _ _ (.cst (.int 1000)) _ _ _ 1000 (by decide) (intv (n + 21) _ _ _ _ _ rfl (divv (n + 21) q (.var 7) (.cst (.int 997)) (En ns a b (some (.int t)) (some (.int w))) (Ds ds) w 997 (by decide) (varv _ _ _ _ _ _ rfl) (e_cst' _))) (e_cst' _))
  rw [expS f3]
  simp
theorem l2 (n q : Nat) (ns : List Int) (a b : Option D) : ∀ (m : Nat) (s : Int) (c : Option D) (v : Int) (ds : List Int), ds.length + m ≤ 5000 → ∃ v' c' ds', ds'.length ≤ ds.length + m ∧ frGo (ev P (n + 30) q) (.nm 6) B2 [] (intsFrom s m) (En ns a b c (some (.int v))) (Ds ds) = .ok (.nx (En ns a b c' (some (.int v')))) (Ds ds')
  | 0, s, c, v, ds, _ => ⟨v, c, ds, by simp, rfl⟩
  | m + 1, s, c, v, ds, h => by
    obtain ⟨v1, x, e1⟩ := b2 n q ns a b s v ds (by omega)
    obtain ⟨v2, c2, ds2, h2, e2⟩ := l2 n q ns a b m (s + 1) (some (.int s)) v1 (ds ++ [x]) (by simp; omega)
    refine ⟨v2, c2, ds2, by simp at h2; omega, ?_⟩
    rw [intsFrom, frGo_c, take_nm]
    simp only []
    rw [show Env.put (En ns a b c (some (.int v))) 6 (.int s) = En ns a b (some (.int s)) (some (.int v)) from rfl, e1, r_bind]
    exact e2
def F1 : S := .seq (.fr (.nm 6) (.blt .range (.cons (.cst (.int 60)) .nil)) B1) .skip
def F2 : S := .seq (.asg (.nm 7) (.bin .mod (.blt .int (.cons (.bin .add (.bin .add (.bin .mul (.var 5) (.cst (.int 48271))) (.bin .mul (.var 4) (.cst (.int 69621)))) (.cst (.int 11))) .nil)) (.cst (.int 2147483647)))) (.seq (.fr (.nm 6) (.blt .range (.cons (.cst (.int 12)) .nil)) B2) .skip)
def B4 : S := .seq (.ife (.val (.cmp .ge (.var 5) (.bin .pow (.cst (.int 10)) (.cst (.int 18))))) F1 F2) .skip
def B3 : S := (.seq (.ife (.val (.cmp .gt (.blt .len (.cons (.var 3) .nil)) (.cst (.int 1500)))) (.seq .brk .skip) .skip) (.seq (.asg (.nm 5) (.call 7 (.cons (.var 0) (.cons (.var 4) .nil)))) (.seq (.ife (.val (.cmp .lt (.var 5) (.cst (.int 0)))) (.seq (.asg (.nm 5) (.bin .sub (.cst (.int 1)) (.bin .mul (.cst (.int 2)) (.var 5)))) .skip) .skip) B4)))
theorem seq_tn {n c : Nat} {env env' : Env} {st st' : Sto} {t : E} {a b : S} (h : (ev P (n + 1) c).t t env st = .ok true st) (h2 : (ev P (n + 1) c).s a env st = .ok (.nx env') st') : (ev P (n + 3) c).s (.seq (.ife t a .skip) b) env st = (ev P (n + 2) c).s b env' st' := by
  rw [seq_t h, h2, r_bind]
theorem asgN {n c : Nat} {env : Env} {st st' : Sto} {i : Nat} {e : E} {d : D} (h : (ev P n c).e e env st = .ok d st') : (ev P (n + 2) c).s (.seq (.asg (.nm i) e) .skip) env st = .ok (.nx (env.put i d)) st' := by
  rw [asgS h, s_skip']
theorem frN {n c : Nat} {env : Env} {st : Sto} {i : Nat} {it : E} {a : S} {I : It} {env' : Env} {st1 st' : Sto} (hl : lockOf it env st = none) (hi : (ev P n c).i it env st = .ok I st1) (h : frGo (ev P n c) (.nm i) a I.src I.items env st1 = .ok (.nx env') st') : (ev P (n + 2) c).s (.seq (.fr (.nm i) it a) .skip) env st = .ok (.nx env') st' := by
  rw [frS hl hi h, s_skip']
theorem s3 (n q : Nat) (ns : List Int) (a c d : Option D) (v : Int) (ds : List Int) (b : S) : ∃ v' : Int, (ev P (n + 20) q).s (.seq (.ife (.val (.cmp .lt (.var 5) (.cst (.int 0)))) (.seq (.asg (.nm 5) (.bin .sub (.cst (.int 1)) (.bin .mul (.cst (.int 2)) (.var 5)))) .skip) .skip) b) (En ns a (some (.int v)) c d) (Ds ds) = (ev P (n + 19) q).s b (En ns a (some (.int v')) c d) (Ds ds) := by
  have t : (ev P (n + 18) q).t (.val (.cmp .lt (.var 5) (.cst (.int 0)))) (En ns a (some (.int v)) c d) (Ds ds) = .ok (decide (v < 0)) (Ds ds) := by
    simp [En, cmpop, lt_ii, truth]
  by_cases h : v < 0
  · refine ⟨1 - 2 * v, ?_⟩
    rw [decide_eq_true h] at t
    have e1 := mulv (n + 14) q (.cst (.int 2)) (.var 5) (En ns a (some (.int v)) c d) (Ds ds) 2 v (.inl (by decide)) (e_cst' _) (varv _ _ _ _ _ _ rfl)
    have e2 := subv (n + 15) q (.cst (.int 1)) _ _ _ 1 _ (e_cst' _) e1
    exact seq_tn (n := n + 17) t (asgN (n := n + 16) (i := 5) e2)
  · refine ⟨v, ?_⟩
    rw [decide_eq_false h] at t
    exact seq_f (n := n + 17) t
theorem pow18 (st : Sto) : binop .pow (.int 10) (.int 18) st = .ok (.int 1000000000000000000) st := by simp [binop]
theorem f1 (n q : Nat) (ns : List Int) (a c d : Option D) (v : Int) (ds : List Int) (hl : ds.length ≤ 4000) : ∃ (b' c' d' : Option D) (ds' : List Int), ds'.length ≤ ds.length + 60 ∧ (ev P (n + 30) q).s F1 (En ns a (some (.int v)) c d) (Ds ds) = .ok (.nx (En ns a b' c' d')) (Ds ds') := by
  obtain ⟨v1, c1, ds1, h1, e1⟩ := l1 (n + 8) q ns a d (intsFrom 0 60) c v ds (by rw [ints_len]; omega)
  rw [ints_len] at h1
  refine ⟨some (.int v1), c1, d, ds1, h1, ?_⟩
  have er : (ev P (n + 28) q).i (.blt .range (.cons (.cst (.int 60)) .nil)) (En ns a (some (.int v)) c d) (Ds ds) = .ok ⟨intsFrom 0 60, [], false⟩ (Ds ds) := rng1 (n := n + 27) (m := 60) (e_cst' _) (by decide)
  exact frN (n := n + 28) (I := ⟨intsFrom 0 60, [], false⟩) rfl er e1
theorem f2e (n q : Nat) (env : Env) (st : Sto) (v : Int) (k : Int) (h5 : env.get 5 = some (.int v)) (h4 : env.get 4 = some (.int k)) : ∃ w : Int, (ev P (n + 38) q).e (.bin .mod (.blt .int (.cons (.bin .add (.bin .add (.bin .mul (.var 5) (.cst (.int 48271))) (.bin .mul (.var 4) (.cst (.int 69621)))) (.cst (.int 11))) .nil)) (.cst (.int 2147483647))) env st = .ok (.int w) st := by
  have f1 := mulv (n + 32) q (.var 5) (.cst (.int 48271)) env st v 48271 (.inr (by decide)) (varv (n + 31) _ _ _ _ _ h5) (e_cst' (n := n + 31) _)
  have f2 := mulv (n + 32) q (.var 4) (.cst (.int 69621)) env st k 69621 (.inr (by decide)) (varv (n + 31) _ _ _ _ _ h4) (e_cst' (n := n + 31) _)
  have f3 := addv (n + 34) q _ (.cst (.int 11)) _ _ _ 11 (addv (n + 33) q _ _ _ _ _ _ f1 f2) (e_cst' (n := n + 33) _)
  exact ⟨_, modv (n + 37) q _ (.cst (.int 2147483647)) _ _ _ 2147483647 (by decide) (intv (n + 34) q _ _ _ _ rfl f3) (e_cst' (n := n + 36) _)⟩
theorem f2 (n q : Nat) (ns : List Int) (k : Nat) (c d : Option D) (v : Int) (ds : List Int) (hl : ds.length ≤ 4000) : ∃ (b' c' d' : Option D) (ds' : List Int), ds'.length ≤ ds.length + 60 ∧ (ev P (n + 40) q).s F2 (En ns (some (.int k)) (some (.int v)) c d) (Ds ds) = .ok (.nx (En ns (some (.int k)) b' c' d')) (Ds ds') := by
  obtain ⟨w, g⟩ := f2e n q (En ns (some (.int k)) (some (.int v)) c d) (Ds ds) v k rfl rfl
  obtain ⟨w3, c3, ds3, h3, e3⟩ := l2 (n + 7) q ns (some (.int k)) (some (.int v)) 12 0 c w ds (by omega)
  refine ⟨some (.int v), c3, some (.int w3), ds3, by omega, ?_⟩
  unfold F2
  rw [show n + 40 = n + 38 + 2 from rfl, asgS g]
  have er : (ev P (n + 37) q).i (.blt .range (.cons (.cst (.int 12)) .nil)) (En ns (some (.int k)) (some (.int v)) c (some (.int w))) (Ds ds) = .ok ⟨intsFrom 0 12, [], false⟩ (Ds ds) := rng1 (n := n + 36) (m := 12) (e_cst' _) (by decide)
  rw [show Env.put (En ns (some (.int k)) (some (.int v)) c d) 7 (.int w) = En ns (some (.int k)) (some (.int v)) c (some (.int w)) from rfl, show n + 38 + 1 = n + 37 + 2 from rfl]
  rw [show n + 7 + 30 = n + 37 from rfl] at e3
  exact frN (n := n + 37) (I := ⟨intsFrom 0 12, [], false⟩) rfl er e3
theorem t4 (n q : Nat) (ns : List Int) (a c d : Option D) (v : Int) (st : Sto) : (ev P (n + 40) q).t (.val (.cmp .ge (.var 5) (.bin .pow (.cst (.int 10)) (.cst (.int 18))))) (En ns a (some (.int v)) c d) st = .ok (!decide (v < 1000000000000000000)) st := by
  rw [t_val', e_cmp', varv _ _ _ _ _ (.int v) rfl, r_bind, e_bin', e_cst', r_bind, e_cst', r_bind, pow18, r_val, r_bind]
  simp only [cmpop, lt_ii, ofB_s, r_bind, truth, okO_s]
theorem ife_f {n c : Nat} {env env' : Env} {st st' : Sto} {t : E} {a b : S} (h : (ev P (n + 1) c).t t env st = .ok false st) (h2 : (ev P (n + 1) c).s b env st = .ok (.nx env') st') : (ev P (n + 3) c).s (.seq (.ife t a b) .skip) env st = .ok (.nx env') st' := by
  rw [s_seq', s_ife', h, r_bind, if_neg (by decide), h2, r_bind]
  simp only [s_skip']
theorem ife_t {n c : Nat} {env env' : Env} {st st' : Sto} {t : E} {a b : S} (h : (ev P (n + 1) c).t t env st = .ok true st) (h2 : (ev P (n + 1) c).s a env st = .ok (.nx env') st') : (ev P (n + 3) c).s (.seq (.ife t a b) .skip) env st = .ok (.nx env') st' := by
  rw [s_seq', s_ife', h, r_bind, if_pos rfl, h2, r_bind]
  simp only [s_skip']
theorem b4 (n q : Nat) (ns : List Int) (k : Nat) (c d : Option D) (v : Int) (ds : List Int) (hl : ds.length ≤ 1500) : ∃ (b' c' d' : Option D) (ds' : List Int), ds'.length ≤ 1600 ∧ (ev P (n + 42) q).s B4 (En ns (some (.int k)) (some (.int v)) c d) (Ds ds) = .ok (.nx (En ns (some (.int k)) b' c' d')) (Ds ds') := by
  have t := t4 n q ns (some (.int k)) c d v (Ds ds)
  by_cases h : v < 1000000000000000000
  · obtain ⟨b', c', d', ds', h1, e⟩ := f2 n q ns k c d v ds (by omega)
    rw [decide_eq_true h] at t
    rw [show n + 40 = n + 39 + 1 from rfl] at t e
    refine ⟨b', c', d', ds', by omega, ?_⟩
    unfold B4
    exact ife_f (n := n + 39) t e
  · obtain ⟨b', c', d', ds', h1, e⟩ := f1 (n + 10) q ns (some (.int k)) c d v ds (by omega)
    rw [decide_eq_false h] at t
    rw [show n + 40 = n + 39 + 1 from rfl] at t
    rw [show n + 10 + 30 = n + 39 + 1 from rfl] at e
    refine ⟨b', c', d', ds', by omega, ?_⟩
    unfold B4
    exact ife_t (n := n + 39) t e
theorem b3 (n q : Nat) (ns : List Int) (k : Nat) (b c d : Option D) (ds : List Int) (hl : ds.length ≤ 1600) : ∃ (b' c' d' : Option D) (ds' : List Int), ds'.length ≤ 1600 ∧ ((ev P (n + 60) (q + 1)).s B3 (En ns (some (.int k)) b c d) (Ds ds) = .ok (.nx (En ns (some (.int k)) b' c' d')) (Ds ds') ∨ (ev P (n + 60) (q + 1)).s B3 (En ns (some (.int k)) b c d) (Ds ds) = .ok (.bk (En ns (some (.int k)) b' c' d')) (Ds ds')) := by
  have hln : lenR (.ref 0) (Ds ds) = some ds.length := by simp [lenR, Ds]
  have t : (ev P (n + 58) (q + 1)).t (.val (.cmp .gt (.blt .len (.cons (.var 3) .nil)) (.cst (.int 1500)))) (En ns (some (.int k)) b c d) (Ds ds) = .ok (decide ((1500 : Int) < ds.length)) (Ds ds) := by
    rw [t_val', e_cmp', e_blt', show asRng (oneE (.cons (.var 3) .nil)) = none from rfl]
    simp only [es_cons', es_nil', varv _ _ 3 (En ns (some (.int k)) b c d) _ (.ref 0) rfl, r_bind, bltA, walks, bltV, blt1, hln, if_false, Bool.false_eq_true, r_val, e_cst', cmpop, gt_ii, ofB_s, truth, okO_s]
  unfold B3
  by_cases h : (1500 : Int) < ds.length
  · rw [decide_eq_true h] at t
    refine ⟨b, c, d, ds, hl, .inr ?_⟩
    refine (seq_t (n := n + 57) t).trans ?_
    simp
  · rw [decide_eq_false h] at t
    obtain ⟨x, ex⟩ := cell (n + 36) q ns k (Ds ds)
    rw [seq_f (n := n + 57) t, asgS (n := n + 57) (d := .int x) (st' := Ds ds) (by
      rw [show n + 57 = n + 36 + 20 + 1 from rfl, e_call']
      simp only [es_cons', es_nil', varv _ _ 0 (En ns (some (.int k)) b c d) _ (.rol ns) rfl, varv _ _ 4 (En ns (some (.int k)) b c d) _ (.int k) rfl, r_bind]
      exact ex)]
    rw [show Env.put (En ns (some (.int k)) b c d) 5 (.int x) = En ns (some (.int k)) (some (.int x)) c d from rfl]
    obtain ⟨x1, e1⟩ := s3 (n + 38) (q + 1) ns (some (.int k)) c d x ds B4
    rw [show n + 57 + 1 = n + 38 + 20 from rfl, e1]
    obtain ⟨b', c', d', ds', h1, e2⟩ := b4 (n + 15) (q + 1) ns k c d x1 ds (by omega)
    rw [show n + 15 + 42 = n + 38 + 19 from rfl] at e2
    exact ⟨b', c', d', ds', h1, .inl e2⟩
theorem l3 (n q : Nat) (ns : List Int) : ∀ (m s : Nat) (a b c d : Option D) (ds : List Int), ds.length ≤ 1600 → ∃ (a' b' c' d' : Option D) (ds' : List Int), frGo (ev P (n + 60) (q + 1)) (.nm 4) B3 [] (intsFrom s m) (En ns a b c d) (Ds ds) = .ok (.nx (En ns a' b' c' d')) (Ds ds')
  | 0, s, a, b, c, d, ds, _ => ⟨a, b, c, d, ds, rfl⟩
  | m + 1, s, a, b, c, d, ds, h => by
    obtain ⟨b1, c1, d1, ds1, h1, e1⟩ := b3 n q ns s b c d ds h
    rw [intsFrom, frGo_c, take_nm]
    simp only []
    rw [show Env.put (En ns a b c d) 4 (.int (s : Int)) = En ns (some (.int s)) b c d from rfl]
    rcases e1 with e1 | e1
    · obtain ⟨a2, b2, c2, d2, ds2, e2⟩ := l3 n q ns m (s + 1) (some (.int s)) b1 c1 d1 ds1 h1
      refine ⟨a2, b2, c2, d2, ds2, ?_⟩
      rw [e1, r_bind]
      exact e2
    · exact ⟨some (.int s), b1, c1, d1, ds1, by rw [e1, r_bind]⟩
/-- a call over values alone that makes one list -/
theorem call_new {n c i : Nat} {fn : Fn} {ds : List D} {st : Sto} {o : O} (hi : nth P i = some fn) (hl : ds.length = fn.ps) (h0 : D.lowL 0 ds = true) (e : (ev P n c).s fn.body (Env.new fn.ns ds) [] = .ok (.rt (.ref 0)) [o]) (ho : O.low 0 o = true) : callF P (ev P n c) i ds st = .ok (.ref (slen st)) (st ++ [o]) := by
  rw [callF_eq hi, if_pos (by simp [hl]), if_pos h0]
  unfold body
  rw [e]
  have hf : fin 0 (.ref 0) [o] = .ok (.ref 0) [o] := by
    unfold fin
    rw [if_neg (by simp [slen, Nat.ble_eq]), if_pos (show stBelow 0 (List.take 0 [o]) = true from rfl), if_neg (by simp [D.low])]
    simp [ho]
  show (match fin 0 (.ref 0) [o] with
          | .ok d st1 => lay d st1 st
          | .ex x _ => if D.lowL 0 x.fs = true then .ex x st else .no
          | .no => .no) = _
  rw [hf]
  show lay (.ref 0) [o] st = _
  unfold lay
  simp [ho, D.isRef]
theorem bd : b__law_digits = .seq (.asg (.nm 3) (.lst .nil)) (.seq (.fr (.nm 4) (.blt .range (.cons (.var 1) (.cons (.var 2) .nil))) B3) (.seq (.ret (.var 3)) .skip)) := rfl
theorem digits (n q : Nat) (ns : List Int) : ∃ ds : List Int, callF P (ev P (n + 70) (q + 1)) 8 [.rol ns, .int 0, .int 63] [] = .ok (.ref 0) (Ds ds) := by
  obtain ⟨a, b, c, d, ds, e⟩ := l3 (n + 7) q ns 63 0 none none none none [] (by simp)
  refine ⟨ds, ?_⟩
  have e2 : (ev P (n + 70) (q + 1)).s b__law_digits [some (.rol ns), some (.int 0), some (.int 63), none, none, none, none, none] [] = .ok (.rt (.ref 0)) (Ds ds) := by
    rw [bd, asgS (n := n + 68) (d := .ref 0) (st' := Ds []) (by simp [small, line, Nat.ble_eq, new]; rfl)]
    have er : (ev P (n + 67) (q + 1)).i (.blt .range (.cons (.var 1) (.cons (.var 2) .nil))) (En ns none none none none) (Ds []) = .ok ⟨intsFrom 0 63, [], false⟩ (Ds []) := by
      rw [i_range']
      unfold rngR
      simp only [varv _ _ 1 (En ns none none none none) _ (.int 0) rfl, varv _ _ 2 (En ns none none none none) _ (.int 63) rfl, r_bind]
      rw [if_pos (by decide), r_bind]
      rfl
    rw [show Env.put [some (.rol ns), some (.int 0), some (.int 63), none, none, none, none, none] 3 (.ref 0) = En ns none none none none from rfl, show n + 68 + 1 = n + 67 + 2 from rfl]
    rw [frS (I := ⟨intsFrom 0 63, [], false⟩) rfl er e]
    exact retS (varv _ _ _ _ _ _ rfl)
  have hlow : O.low 0 (.lst (ds.map .int)) = true := lowL_all fun d hd => by
    obtain ⟨i, _, rfl⟩ := List.mem_map.mp hd
    rfl
  exact call_new (fn := f__law_digits) rfl rfl rfl e2 hlow
end Lw
end

section
set_option autoImplicit false
set_option Elab.async false
set_option linter.all false
set_option maxRecDepth 100000
namespace Lw
open Ev
open PySem (Str)
/-! figures -/
theorem digs_app : ∀ (a b : List Nat) (n : Nat), digs (a ++ b) n = (match digs a n with | some m => digs b m | none => none)
  | [], b, n => rfl
  | c :: a, b, n => by
    show (if (Nat.ble 48 c && Nat.ble c 57) = true then digs (a ++ b) (n * 10 + (c - 48)) else none) = (match (if (Nat.ble 48 c && Nat.ble c 57) = true then digs a (n * 10 + (c - 48)) else none) with | some m => digs b m | none => none)
    by_cases h : (Nat.ble 48 c && Nat.ble c 57) = true
    · rw [if_pos h, if_pos h]; exact digs_app a b _
    · rw [if_neg h, if_neg h]
theorem digs_1 (d n : Nat) (h : d < 10) : digs [48 + d] n = some (n * 10 + d) := by
  show (if (Nat.ble 48 (48 + d) && Nat.ble (48 + d) 57) = true then some (n * 10 + (48 + d - 48)) else none) = _
  rw [if_pos (by simp [Nat.ble_eq]; omega), Nat.add_sub_cancel_left]
theorem digs_num (n : Nat) : digs (TL.numL n) 0 = some n := by
  induction n using Nat.strongRecOn with
  | _ n ih =>
    by_cases h : n < 10
    · rw [TL.numL_lt h, digs_1 n 0 h]; simp
    · rw [TL.numL_step (by omega), digs_app, ih (n / 10) (by omega)]
      simp only []
      rw [digs_1 _ _ (Nat.mod_lt n (by decide))]
      congr 1; omega
def isDg (c : Nat) : Prop := 48 ≤ c ∧ c ≤ 57
instance (c : Nat) : Decidable (isDg c) := inferInstanceAs (Decidable (48 ≤ c ∧ c ≤ 57))
theorem num_dg {n c : Nat} (h : c ∈ TL.numL n) : isDg c := by
  have r := TL.numL_digits n c h
  unfold isDg
  omega
/-- the first figure -/
theorem num_head (n : Nat) : ∃ c r, TL.numL n = c :: r ∧ isDg c ∧ (c = 48 → n = 0 ∧ r = []) := by
  induction n using Nat.strongRecOn with
  | _ n ih =>
    by_cases h : n < 10
    · exact ⟨48 + n, [], TL.numL_lt h, ⟨by omega, by omega⟩, fun e => ⟨by omega, rfl⟩⟩
    · obtain ⟨c, r, e, hd, h0⟩ := ih (n / 10) (by omega)
      refine ⟨c, r ++ [48 + n % 10], by rw [TL.numL_step (by omega), e]; rfl, hd, fun e => ?_⟩
      have := (h0 e).1
      omega
theorem num_neg (m : Nat) : (Str.ofString (toString (Int.negSucc m))).cps.toList = 45 :: TL.numL (m + 1) := by
  have e := TL.tl_num (m + 1)
  have e1 : toString (((m + 1 : Nat)) : Int) = Nat.repr (m + 1) := rfl
  rw [e1] at e
  unfold TL.tl at e
  have e2 : toString (Int.negSucc m) = "-" ++ Nat.repr (m + 1) := rfl
  rw [e2, ← e, PySem.Str.ofString_eq_toList, PySem.Str.ofString_eq_toList, String.toList_append, List.map_append]
  rfl
/-- the figures of an integer, with its sign -/
theorem int_txt (i : Int) (h : i.natAbs < 10 ^ 20) : ∃ (s : List Nat) (n : Nat), (Str.ofString (toString i)).cps.toList = s ++ TL.numL n ∧ ((s = [] ∧ i = n) ∨ (s = [45] ∧ 0 < n ∧ i = -(n : Int))) ∧ (TL.numL n).length ≤ 20 := by
  cases i with
  | ofNat n => exact ⟨[], n, TL.tl_num n, .inl ⟨rfl, rfl⟩, TL.numL_len (by decide) h⟩
  | negSucc m => exact ⟨[45], m + 1, num_neg m, .inr ⟨rfl, by omega, rfl⟩, TL.numL_len (by decide) h⟩
/-! parts of texts -/
theorem cutAt_n (n d k : Nat) : cutAt n d (some (k : Int)) = min k n := by
  show (if Nat.blt k n then k else n) = _
  by_cases h : k < n
  · rw [if_pos (by simpa [Nat.blt_eq] using h)]; omega
  · rw [if_neg (by simpa [Nat.blt_eq] using h)]; omega
theorem cutL_n {α : Type} (xs : List α) (a b : Nat) : cutL xs (some (a : Int)) (some (b : Int)) = (xs.drop a).take (b - a) := by
  unfold cutL
  rw [cutAt_n, cutAt_n]
  by_cases h : a ≤ xs.length
  · rw [Nat.min_eq_left h]
    by_cases h2 : b ≤ xs.length
    · rw [Nat.min_eq_left h2]
    · rw [Nat.min_eq_right (by omega), List.take_of_length_le (by simp), List.take_of_length_le (by simp; omega)]
  · rw [List.drop_of_length_le (show xs.length ≤ min a xs.length by omega), List.drop_of_length_le (show xs.length ≤ a by omega)]
    simp
theorem cut_mid (A m B : List Nat) : cutL (A ++ (m ++ B)) (some ((A.length : Nat) : Int)) (some ((A.length + m.length : Nat) : Int)) = m := by
  rw [cutL_n, List.drop_left' rfl, Nat.add_sub_cancel_left, List.take_left' rfl]
/-- a text's sign at a place, or nothing -/
theorem slc1 (n q i p : Nat) (env : Env) (st : Sto) (A : List Nat) (B : List Nat) (j : Nat) (ht : env.get i = some (.str (ofChars (A ++ B)))) (hj : env.get j = some (.int ((A.length : Nat) : Int))) (hs : (A ++ B).length ≤ 2000000) : (ev P (n + 3) q).e (.slc (.var i) (.var j) (.bin .add (.var j) (.cst (.int 1)))) env st = .ok (.str (ofChars (B.take 1))) st := by
  have e1 := addv (n + 1) q (.var j) (.cst (.int 1)) env st A.length 1 (varv _ _ _ _ _ _ hj) (e_cst' _)
  rw [e_slc', varv _ _ _ _ _ _ ht, r_bind, opt_var, varv _ _ _ _ _ _ hj, r_bind]
  simp only [r_bind, opt_bin]
  rw [e1, r_bind]
  simp only [r_bind, cut, oc_len]
  rw [if_pos (small_of (by omega)), oc_tl, show ((A.length : Nat) : Int) + 1 = ((A.length + 1 : Nat) : Int) from rfl, cutL_n, List.drop_left' rfl, Nat.add_sub_cancel_left]
  rfl
theorem eq_ss (st : Sto) (a b : Str) : cmpop .eq (.str a) (.str b) st = some (sEq a b) := by simp [cmpop, eqR, D.plain, D.pl, D.eqv]
theorem ne_ss (st : Sto) (a b : Str) : cmpop .ne (.str a) (.str b) st = some (!sEq a b) := by simp [cmpop, eqR, D.plain, D.pl, D.eqv]
theorem sEq_1 (a b : Nat) : sEq (ofChars [a]) ⟨#[b]⟩ = decide (a = b) := by
  unfold sEq ofChars
  by_cases h : a = b
  · subst h; simp
  · rw [decide_eq_false h]; simp [h]
theorem sEq_0 (b : Nat) : sEq (ofChars []) ⟨#[b]⟩ = false := by simp [sEq, ofChars]
theorem sEq_e (a : Nat) (r : List Nat) : sEq (ofChars (a :: r)) ⟨#[]⟩ = false := by simp [sEq, ofChars]
theorem sEq_n : sEq (ofChars []) ⟨#[]⟩ = true := by simp [sEq, ofChars]
theorem eqv (n q : Nat) (x : E) (env : Env) (st : Sto) (a b : Str) (h : (ev P (n + 1) q).e x env st = .ok (.str a) st) : (ev P (n + 3) q).t (.val (.cmp .eq x (.cst (.str b)))) env st = .ok (sEq a b) st := by
  rw [t_val', e_cmp', h, r_bind, e_cst', r_bind, eq_ss, ofB_s, r_bind]
  rfl
def figs : Str := ⟨#[48, 49, 50, 51, 52, 53, 54, 55, 56, 57]⟩
theorem memN_f (c : Nat) : memN c figs.cps.toList = decide (isDg c) := by
  have h : memN c figs.cps.toList = (c == 48 || (c == 49 || (c == 50 || (c == 51 || (c == 52 || (c == 53 || (c == 54 || (c == 55 || (c == 56 || (c == 57 || false)))))))))) := rfl
  rw [h, Bool.eq_iff_iff, decide_eq_true_iff]
  simp only [Bool.or_eq_true, beq_iff_eq, Bool.false_eq_true, or_false]
  unfold isDg
  omega
theorem in_f (st : Sto) (c : Nat) : cmpop .isin (.str (ofChars [c])) (.str figs) st = some (decide (isDg c)) := by
  rw [← memN_f]
  rfl
theorem nin_f (st : Sto) (c : Nat) : cmpop .notin (.str (ofChars [c])) (.str figs) st = some (!decide (isDg c)) := by
  rw [← memN_f]
  rfl
end Lw
end

section
set_option autoImplicit false
set_option Elab.async false
set_option linter.all false
set_option maxRecDepth 100000
namespace Lw
open Ev
open PySem (Str)
/-- what may stand behind a value -/
def Behind (suf : List Nat) : Prop := ∀ c r, suf = c :: r → ¬ isDg c
def sl (j : Nat) : E := .slc (.var 0) (.var j) (.bin .add (.var j) (.cst (.int 1)))
def Ie (X : Str) (p b : Nat) (sg : Option D) (e : Option D) : Env := [some (.str X), some (.int p), some (.int b), sg, e]
def WT : E := .and (.val (.cmp .ne (sl 4) (.cst (.str ⟨#[]⟩)))) (.val (.cmp .isin (sl 4) (.glb "FIGURES" (.str ⟨#[48, 49, 50, 51, 52, 53, 54, 55, 56, 57]⟩))))
def WB : S := .seq (.ife (.or (.val (.cmp .eq (.var 3) (.cst (.str ⟨#[48]⟩)))) (.val (.cmp .eq (.bin .sub (.var 4) (.var 2)) (.glb "MOST_FIGURES" (.int 2000))))) (.seq .nev .skip) .skip) (.seq (.aug 4 .add (.cst (.int 1))) .skip)
theorem wt (n q : Nat) (env : Env) (st : Sto) (C B : List Nat) (h0 : env.get 0 = some (.str (ofChars (C ++ B)))) (h4 : env.get 4 = some (.int ((C.length : Nat) : Int))) (hl : (C ++ B).length ≤ 2000000) (b : Bool) (hb : ∀ c r, B = c :: r → b = decide (isDg c)) (hn : B = [] → b = false) : (ev P (n + 20) q).t WT env st = .ok b st := by
  have e1 := slc1 (n + 14) q 0 0 env st C B 4 h0 h4 hl
  unfold WT sl
  rw [t_and', t_val', e_cmp', e1, r_bind, e_cst', r_bind, ne_ss, ofB_s, r_bind]
  cases B with
  | nil =>
    rw [List.take_nil, sEq_n, hn rfl]
    rfl
  | cons c r =>
    rw [show (c :: r).take 1 = [c] from rfl, sEq_e]
    rw [show (c :: r).take 1 = [c] from rfl] at e1
    simp only [truth, okO_s, r_bind, if_true, Bool.not_false]
    rw [t_val', e_cmp', e1, r_bind, e_glb', r_bind, show (⟨#[48, 49, 50, 51, 52, 53, 54, 55, 56, 57]⟩ : Str) = figs from rfl, in_f, ofB_s, r_bind, hb c r rfl]
    rfl
theorem eqi (st : Sto) (a b : Int) : cmpop .eq (.int a) (.int b) st = some (a == b) := by simp [cmpop, eqR, D.plain, D.pl, D.eqv]
theorem wb (n q : Nat) (X : Str) (p b sg : Nat) (e : Nat) (st : Sto) (hb : e < b + 100) (hs : sg ≠ 48) : (ev P (n + 20) q).s WB (Ie X p b (some (.str (ofChars [sg]))) (some (.int e))) st = .ok (.nx (Ie X p b (some (.str (ofChars [sg]))) (some (.int ((e + 1 : Nat) : Int))))) st := by
  have t : (ev P (n + 18) q).t (.or (.val (.cmp .eq (.var 3) (.cst (.str ⟨#[48]⟩)))) (.val (.cmp .eq (.bin .sub (.var 4) (.var 2)) (.glb "MOST_FIGURES" (.int 2000))))) (Ie X p b (some (.str (ofChars [sg]))) (some (.int e))) st = .ok false st := by
    have h2 : (((e : Int) - b) == 2000) = false := by simp; omega
    rw [t_or', eqv (n + 14) q _ _ _ (ofChars [sg]) _ (varv _ _ _ _ _ _ rfl), r_bind, sEq_1, decide_eq_false hs]
    simp only [Bool.false_eq_true, if_false]
    rw [t_val', e_cmp', subv (n + 14) q _ _ _ _ (e : Int) (b : Int) (varv _ _ _ _ _ _ rfl) (varv _ _ _ _ _ _ rfl), r_bind, e_glb', r_bind, eqi, h2]
    rfl
  unfold WB
  rw [seq_f (n := n + 17) t, s_seq', s_aug', show Env.get (Ie X p b (some (.str (ofChars [sg]))) (some (.int e))) 4 = some (.int e) from rfl]
  simp only [e_cst', r_bind, iop, r_val, s_skip']
  rfl
theorem wl (n q : Nat) (X : Str) (p b sg : Nat) (suf : List Nat) (st : Sto) (hsuf : Behind suf) : ∀ (l C : List Nat) (m : Nat), X = ofChars (C ++ (l ++ suf)) → (C ++ (l ++ suf)).length ≤ 2000000 → (∀ c ∈ l, isDg c) → (l ≠ [] → sg ≠ 48) → C.length + l.length ≤ b + 100 → l.length < m → whGo (ev P (n + 20) q) WT WB m (Ie X p b (some (.str (ofChars [sg]))) (some (.int ((C.length : Nat) : Int)))) st = .ok (.nx (Ie X p b (some (.str (ofChars [sg]))) (some (.int ((C.length + l.length : Nat) : Int))))) st
  | [], C, m + 1, hX, hl, hd, hs, hb, hm => by
    rw [whGo_s, wt n q _ st C suf (by rw [hX]; rfl) rfl hl false (fun c r e => by rw [decide_eq_false (hsuf c r e)]) (fun _ => rfl), r_bind]
    rfl
  | c :: l, C, m + 1, hX, hl, hd, hs, hb, hm => by
    rw [List.length_cons] at hb hm
    rw [whGo_s, wt n q _ st C (c :: (l ++ suf)) (by rw [hX]; rfl) rfl hl true (fun c' r e => by
      cases e
      rw [decide_eq_true (hd c (by simp))]) (fun e => by cases e), r_bind]
    simp only [if_true]
    rw [wb n q X p b sg C.length st (by omega) (hs (by simp)), r_bind]
    simp only []
    have ih := wl n q X p b sg suf st hsuf l (C ++ [c]) m (by rw [hX]; simp) (by simpa using hl) (fun x hx => hd x (by simp [hx])) (fun _ => hs (by simp)) (by simp; omega) (by omega)
    rw [List.length_append, List.length_cons, List.length_nil, Nat.zero_add] at ih
    rw [ih, List.length_cons, show C.length + 1 + l.length = C.length + (l.length + 1) by omega]
theorem dg_ne {c : Nat} (h : isDg c) (x : Nat) (hx : x < 48 ∨ 57 < x) : c ≠ x := by
  unfold isDg at h
  omega
/-- the head of an integer's reader: where the figures begin -/
theorem ia_begin (n q : Nat) (env : Env) (st : Sto) (A B s : List Nat) (c : Nat) (r : List Nat) (hB : B = s ++ c :: r) (hs : s = [] ∨ s = [45]) (hc : isDg c) (h0 : env.get 0 = some (.str (ofChars (A ++ B)))) (h1 : env.get 1 = some (.int ((A.length : Nat) : Int))) (hl : (A ++ B).length ≤ 2000000) : (ev P (n + 10) q).e (.ifx (.val (.cmp .eq (sl 1) (.cst (.str ⟨#[45]⟩)))) (.bin .add (.var 1) (.cst (.int 1))) (.var 1)) env st = .ok (.int ((A.length + s.length : Nat) : Int)) st := by
  have e1 := slc1 (n + 4) q 0 0 env st A B 1 h0 h1 hl
  unfold sl
  rw [e_ifx', eqv (n + 6) q _ _ _ _ _ e1, r_bind]
  rcases hs with rfl | rfl
  · subst hB
    rw [show List.take 1 (([] : List Nat) ++ c :: r) = [c] from rfl, sEq_1, decide_eq_false (dg_ne hc 45 (by omega))]
    simp only [Bool.false_eq_true, if_false]
    rw [varv _ _ _ _ _ _ h1]
    rfl
  · subst hB
    rw [show List.take 1 (([45] : List Nat) ++ c :: r) = [45] from rfl, sEq_1, decide_eq_true rfl]
    simp only [if_true]
    exact addv (n + 8) q _ _ _ _ _ 1 (varv _ _ _ _ _ _ h1) (e_cst' _)
theorem ia_test (n q : Nat) (X : Str) (p b sg : Nat) (e : Option D) (st : Sto) (hd : isDg sg) (h : sg = 48 → b ≤ p) : (ev P (n + 10) q).t (.or (.val (.cmp .eq (.var 3) (.cst (.str ⟨#[]⟩)))) (.or (.val (.cmp .notin (.var 3) (.glb "FIGURES" (.str ⟨#[48, 49, 50, 51, 52, 53, 54, 55, 56, 57]⟩)))) (.and (.val (.cmp .eq (.var 3) (.cst (.str ⟨#[48]⟩)))) (.val (.cmp .gt (.var 2) (.var 1)))))) (Ie X p b (some (.str (ofChars [sg]))) e) st = .ok false st := by
  rw [t_or', eqv (n + 6) q _ _ _ (ofChars [sg]) _ (varv _ _ _ _ _ _ rfl), r_bind, sEq_e]
  simp only [Bool.false_eq_true, if_false]
  rw [t_or', t_val', e_cmp', varv _ _ _ _ _ (.str (ofChars [sg])) rfl, r_bind, e_glb', r_bind, show (⟨#[48, 49, 50, 51, 52, 53, 54, 55, 56, 57]⟩ : Str) = figs from rfl, nin_f, ofB_s, r_bind, decide_eq_true hd]
  simp only [truth, okO_s, r_bind, Bool.not_true, Bool.false_eq_true, if_false]
  rw [t_and', eqv (n + 4) q _ _ _ (ofChars [sg]) _ (varv _ _ _ _ _ _ rfl), r_bind, sEq_1]
  by_cases h2 : sg = 48
  · have h3 : ¬ ((p : Int) < b) := by have := h h2; omega
    rw [decide_eq_true h2]
    simp only [if_true]
    rw [t_val', e_cmp', varv _ _ _ _ _ (.int b) rfl, r_bind, varv _ _ _ _ _ (.int p) rfl, r_bind]
    simp only [cmpop, gt_ii, ofB_s, r_bind, decide_eq_false h3]
    rfl
  · rw [decide_eq_false h2]
    rfl
theorem ia_int (st : Sto) (s l : List Nat) (n : Nat) (i : Int) (hl : l = TL.numL n) (h : (s = [] ∧ i = n) ∨ (s = [45] ∧ 0 < n ∧ i = -(n : Int))) (h20 : l.length ≤ 20) : blt1 .int (.str (ofChars (s ++ l))) st = .ok (.int i) st := by
  have key : intOf (s ++ l) = some i := by
    subst hl
    obtain ⟨c, r, e, hd, _⟩ := num_head n
    have hv := digs_num n
    rcases h with ⟨rfl, rfl⟩ | ⟨rfl, _, rfl⟩
    · rw [e] at hv ⊢
      show (if (c == 45) = true then negOf r else posOf (c :: r)) = _
      rw [if_neg (by simpa using dg_ne hd 45 (by omega))]
      unfold posOf
      rw [hv]
    · rw [e] at hv ⊢
      show negOf (c :: r) = _
      unfold negOf
      rw [hv]
  have hs : s.length ≤ 1 := by rcases h with ⟨rfl, _⟩ | ⟨rfl, _⟩ <;> simp
  show (if Nat.ble (ofChars (s ++ l)).length 640 = true then (match intOf (ofChars (s ++ l)).cps.toList with | some n => R.ok (D.int n) st | none => R.no) else R.no) = _
  rw [if_pos (by rw [oc_len, List.length_append]; simp [Nat.ble_eq]; omega), oc_tl, key]
theorem integer_at (n q : Nat) (i : Int) (hi : i.natAbs < 10 ^ 20) (pre suf : List Nat) (hsuf : Behind suf) (hl : (pre ++ (leafT (.int i) ++ suf)).length ≤ 2000000) (st : Sto) : callF P (ev P (n + 70) q) 4 [.str (ofChars (pre ++ (leafT (.int i) ++ suf))), .int ((pre.length : Nat) : Int)] st = .ok (.tup [.int i, .int ((pre.length + (leafT (.int i)).length : Nat) : Int)]) st := by
  obtain ⟨s, m, e, hs, h20⟩ := int_txt i hi
  obtain ⟨c, r, ed, hd, h0⟩ := num_head m
  have e : leafT (.int i) = s ++ TL.numL m := e
  rw [e] at hl ⊢
  have hs' : s = [] ∨ s = [45] := by rcases hs with ⟨h, _⟩ | ⟨h, _⟩ <;> simp [h]
  refine call_low (fn := f_integer_at) (st' := []) rfl rfl rfl ?_ rfl
  generalize hX : ofChars (pre ++ (s ++ TL.numL m ++ suf)) = X
  show (ev P (n + 70) q).s b_integer_at (Env.new 5 [.str X, .int ((pre.length : Nat) : Int)]) [] = _
  rw [show Env.new 5 [.str X, .int ((pre.length : Nat) : Int)] = [some (.str X), some (.int ((pre.length : Nat) : Int)), none, none, none] from rfl]
  have b1 := ia_begin (n + 58) q [some (.str X), some (.int ((pre.length : Nat) : Int)), none, none, none] [] pre (s ++ TL.numL m ++ suf) s c (r ++ suf) (by rw [ed]; simp) hs' hd (by rw [hX]; rfl) rfl hl
  unfold b_integer_at
  unfold sl at b1
  rw [show n + 70 = n + 68 + 2 from rfl, asgS (n := n + 68) b1]
  have b2 := slc1 (n + 64) q 0 0 (Ie X pre.length (pre.length + s.length) none none) [] (pre ++ s) (TL.numL m ++ suf) 2 (by rw [← hX]; simp [Ie]) (by simp [Ie]) (by simpa using hl)
  rw [show (TL.numL m ++ suf).take 1 = [c] by rw [ed]; rfl] at b2
  show (ev P (n + 67 + 2) q).s _ (Ie X pre.length (pre.length + s.length) none none) [] = _
  rw [asgS b2]
  show (ev P (n + 65 + 3) q).s _ (Ie X pre.length (pre.length + s.length) (some (.str (ofChars [c]))) none) [] = _
  rw [seq_f (ia_test (n + 56) q X pre.length (pre.length + s.length) c none [] hd (fun h => by
    rcases hs with ⟨h1, _⟩ | ⟨h1, h2, _⟩
    · rw [h1]; simp
    · have := (h0 h).1
      omega))]
  have b3 := addv (n + 64) q (.var 2) (.cst (.int 1)) (Ie X pre.length (pre.length + s.length) (some (.str (ofChars [c]))) none) [] _ 1 (varv _ _ _ _ _ _ rfl) (e_cst' _)
  rw [show n + 65 + 2 = n + 65 + 2 from rfl, asgS b3]
  have b4 := wl (n + 44) q X pre.length (pre.length + s.length) c suf [] hsuf r (pre ++ s ++ [c]) (n + 64) (by rw [← hX, ed]; simp) (by rw [ed] at hl; simpa using hl) (fun x hx => num_dg (n := m) (by rw [ed]; simp [hx])) (fun hr h => hr (h0 h).2) (by rw [ed] at h20; simp at h20 ⊢; omega) (by rw [ed] at h20; simp at h20; omega)
  have hC : (pre ++ s ++ [c]).length = pre.length + s.length + 1 := by simp; omega
  rw [hC] at b4
  have hE : pre.length + s.length + 1 + r.length = pre.length + (s ++ TL.numL m).length := by rw [ed]; simp; omega
  rw [hE] at b4
  show (ev P (n + 65 + 1) q).s _ (Ie X pre.length (pre.length + s.length) (some (.str (ofChars [c]))) (some (.int ((pre.length + s.length + 1 : Nat) : Int)))) [] = _
  rw [seq_n (n := n + 65) (env' := Ie X pre.length (pre.length + s.length) (some (.str (ofChars [c]))) (some (.int ((pre.length + (s ++ TL.numL m).length : Nat) : Int)))) (st' := []) (by
    rw [show n + 65 = n + 64 + 1 from rfl, s_whl']
    rw [show n + 44 + 20 = n + 64 from rfl] at b4
    unfold WT WB sl at b4
    exact b4)]
  refine retS (n := n + 63) ?_
  have b5 : (ev P (n + 59) q).e (.slc (.var 0) (.var 1) (.var 4)) (Ie X pre.length (pre.length + s.length) (some (.str (ofChars [c]))) (some (.int ((pre.length + (s ++ TL.numL m).length : Nat) : Int)))) [] = .ok (.str (ofChars (s ++ TL.numL m))) [] := by
    rw [e_slc', varv _ _ 0 _ _ (.str X) rfl, r_bind, opt_var, varv _ _ 1 _ _ (.int ((pre.length : Nat) : Int)) rfl, r_bind]
    simp only [r_bind, opt_var]
    rw [varv _ _ 4 _ _ (.int ((pre.length + (s ++ TL.numL m).length : Nat) : Int)) rfl, r_bind]
    simp only [r_bind, cut]
    rw [← hX, oc_len, if_pos (small_of (by omega)), oc_tl, cut_mid]
    rfl
  rw [e_tup', es_cons', e_blt', show asRng (oneE (.cons (.slc (.var 0) (.var 1) (.var 4)) .nil)) = none from rfl]
  simp only [es_cons', es_nil', b5, r_bind, bltA, walks, bltV, Bool.false_eq_true, if_false]
  rw [ia_int [] s (TL.numL m) m i rfl hs h20, r_val, r_bind, varv _ _ 4 _ _ (.int ((pre.length + (s ++ TL.numL m).length : Nat) : Int)) rfl]
  simp only [r_bind]
  rw [if_pos (small_of (by simp))]
end Lw
end

section
set_option autoImplicit false
set_option Elab.async false
set_option linter.all false
set_option maxRecDepth 100000
namespace Lw
open Ev
open PySem (Str)
/-! a text in quotes, read -/
def esc (c : Nat) : List Nat := if c = 92 then [92, 92] else if c = 34 then [92, 34] else if c = 10 then [92, 110] else [c]
theorem fm_id {f : Nat → List Nat} : ∀ {l : List Nat}, (∀ x ∈ l, f x = [x]) → l.flatMap f = l
  | [], _ => rfl
  | x :: r, h => by rw [List.flatMap_cons, h x (by simp), fm_id fun y hy => h y (by simp [hy])]; rfl
theorem quo_esc : ∀ l : List Nat, quo l = l.flatMap esc := fun l => by
  unfold quo
  rw [rpl_one, rpl_one, rpl_one, List.flatMap_assoc, List.flatMap_assoc]
  refine congrArg (fun f => List.flatMap f l) (funext fun c => ?_)
  unfold esc
  by_cases h1 : c = 92
  · subst h1; decide
  · rw [if_neg h1, if_neg h1]
    by_cases h2 : c = 34
    · subst h2; decide
    · rw [if_neg h2]
      simp only [List.flatMap_cons, List.flatMap_nil, List.append_nil]
      rw [if_neg h2]
      simp
/-- no sign that is told otherwise -/
def plainC (c : Nat) : Prop := c ≠ 92 ∧ c ≠ 34 ∧ c ≠ 10
theorem esc_plain {c : Nat} (h : plainC c) : esc c = [c] := by
  unfold esc
  rw [if_neg h.1, if_neg h.2.1, if_neg h.2.2]
/-- how a sign that is told otherwise is told -/
theorem esc_not {c : Nat} (h : ¬ plainC c) : ∃ d, esc c = [92, d] ∧ (d = 34 ∨ d = 92 ∨ d = 110) ∧ c = (if d = 110 then 10 else d) := by
  unfold esc
  by_cases h1 : c = 92
  · exact ⟨92, by rw [if_pos h1], .inr (.inl rfl), by simp [h1]⟩
  · rw [if_neg h1]
    by_cases h2 : c = 34
    · exact ⟨34, by rw [if_pos h2], .inl rfl, by simp [h2]⟩
    · rw [if_neg h2]
      by_cases h3 : c = 10
      · exact ⟨110, by rw [if_pos h3], .inr (.inr rfl), by simp [h3]⟩
      · exact absurd ⟨h1, h2, h3⟩ h
instance (c : Nat) : Decidable (plainC c) := inferInstanceAs (Decidable (c ≠ 92 ∧ c ≠ 34 ∧ c ≠ 10))
/-- the longest plain beginning -/
theorem split_plain : ∀ l : List Nat, ∃ p, (∀ c ∈ p, plainC c) ∧ (l = p ∨ ∃ c r, ¬ plainC c ∧ l = p ++ c :: r)
  | [] => ⟨[], by simp, .inl rfl⟩
  | x :: l => by
    by_cases h : plainC x
    · obtain ⟨p, hp, e⟩ := split_plain l
      refine ⟨x :: p, fun c hc => ?_, ?_⟩
      · rcases List.mem_cons.mp hc with rfl | hc
        · exact h
        · exact hp c hc
      · rcases e with rfl | ⟨c, r, h1, rfl⟩
        · exact .inl rfl
        · exact .inr ⟨c, r, h1, rfl⟩
    · exact ⟨[], by simp, .inr ⟨x, l, h, rfl⟩⟩
theorem fm_plain {p : List Nat} (h : ∀ c ∈ p, plainC c) : p.flatMap esc = p := fm_id fun c hc => esc_plain (h c hc)
/-! looking for signs -/
theorem find_no {c : Nat} : ∀ {l : List Nat} (k : Nat), c ∉ l → findC c l k = -1
  | [], _, _ => rfl
  | x :: r, k, h => by
    have hx : (x == c) = false := by
      rw [beq_eq_false_iff_ne]
      exact fun e => h (by simp [e])
    show (if (x == c) = true then _ else _) = _
    rw [hx, if_neg (by decide)]
    exact find_no (k + 1) fun hm => h (by simp [hm])
theorem find_at {c : Nat} {r : List Nat} : ∀ {l : List Nat} (k : Nat), c ∉ l → findC c (l ++ c :: r) k = ((k + l.length : Nat) : Int)
  | [], k, _ => by
    show (if (c == c) = true then ((k : Nat) : Int) else _) = _
    rw [if_pos (by simp)]
    rfl
  | x :: l, k, h => by
    have hx : (x == c) = false := by
      rw [beq_eq_false_iff_ne]
      exact fun e => h (by simp [e])
    show (if (x == c) = true then _ else findC c (l ++ c :: r) (k + 1)) = _
    rw [hx, if_neg (by decide), find_at (k + 1) fun hm => h (by simp [hm]), List.length_cons]
    congr 1; omega
theorem first_of {c : Nat} : ∀ {l : List Nat}, c ∈ l → ∃ a b, l = a ++ c :: b ∧ c ∉ a
  | [], h => by cases h
  | x :: l, h => by
    by_cases hx : x = c
    · subst hx; exact ⟨[], l, rfl, by simp⟩
    · have h : c ∈ l := by
        rcases List.mem_cons.mp h with h | h
        · exact absurd h.symm hx
        · exact h
      obtain ⟨a, b, e, hn⟩ := first_of h
      exact ⟨x :: a, b, by rw [e]; rfl, fun hm => by
        rcases List.mem_cons.mp hm with h | h
        · exact hx h.symm
        · exact hn h⟩
theorem clip_n (n k : Nat) (h : k ≤ n) : clip n (k : Int) = k := by
  show (if Nat.blt k n then k else n) = k
  by_cases h2 : k < n
  · rw [if_pos (by simpa [Nat.blt_eq] using h2)]
  · rw [if_neg (by simpa [Nat.blt_eq] using h2)]; omega
/-- find from a place on -/
theorem find2 (n q : Nat) (env : Env) (st : Sto) (A B : List Nat) (c : Nat) (h0 : env.get 0 = some (.str (ofChars (A ++ B)))) (h1 : env.get 1 = some (.int ((A.length : Nat) : Int))) : (ev P (n + 10) q).e (.mth .find (.var 0) (.cons (.cst (.str ⟨#[c]⟩)) (.cons (.var 1) .nil))) env st = .ok (.int (findC c B A.length)) st := by
  rw [e_mth', varv _ _ _ _ _ _ h0, r_bind]
  simp only [kdOf, hasM, if_true, es_cons', es_nil', e_cst', varv _ _ _ _ st _ h1, r_bind, mthV, mthS, mthS2, sign1, oc_len]
  rw [clip_n _ _ (by simp)]
  unfold findS
  rw [oc_tl, List.take_of_length_le (Nat.le_refl _), List.drop_left' rfl]
  rfl
/-- find between two places -/
theorem find3 (n q : Nat) (env : Env) (st : Sto) (A M B : List Nat) (c : Nat) (h0 : env.get 0 = some (.str (ofChars (A ++ (M ++ B))))) (h1 : env.get 1 = some (.int ((A.length : Nat) : Int))) (h4 : env.get 4 = some (.int ((A.length + M.length : Nat) : Int))) : (ev P (n + 10) q).e (.mth .find (.var 0) (.cons (.cst (.str ⟨#[c]⟩)) (.cons (.var 1) (.cons (.var 4) .nil)))) env st = .ok (.int (findC c M A.length)) st := by
  rw [e_mth', varv _ _ _ _ _ _ h0, r_bind]
  simp only [kdOf, hasM, if_true, es_cons', es_nil', e_cst', varv _ _ _ _ st _ h1, varv _ _ _ _ st _ h4, r_bind, mthV, mthS, mthS3, sign1, oc_len]
  rw [clip_n _ _ (by simp), clip_n _ _ (by simp)]
  unfold findS
  have ht : (A ++ (M ++ B)).take (A.length + M.length) = A ++ M := by
    rw [← List.append_assoc, List.take_left' (by simp)]
  rw [oc_tl, ht, List.drop_left' rfl]
  rfl
end Lw
end

section
set_option autoImplicit false
set_option Elab.async false
set_option linter.all false
set_option maxRecDepth 100000
namespace Lw
open Ev
open PySem (Str)
theorem ge0 (n q i : Nat) (env : Env) (st : Sto) (v : Int) (h : env.get i = some (.int v)) : (ev P (n + 3) q).t (.val (.cmp .ge (.var i) (.cst (.int 0)))) env st = .ok (!decide (v < 0)) st := by
  rw [t_val', e_cmp', varv _ _ _ _ _ _ h, r_bind, e_cst', r_bind]
  simp only [cmpop, lt_ii, ofB_s, r_bind, truth, okO_s]
/-- what the parts stand in -/
def Ps (ps : List (List Nat)) : Sto := [.lst (ps.map fun l => .str (ofChars l))]
theorem appS (n q : Nat) (e : E) (env : Env) (ps : List (List Nat)) (x : List Nat) (h2 : env.get 2 = some (.ref 0)) (hl : ps.length ≤ 5000) (he : (ev P (n + 1) q).e e env (Ps ps) = .ok (.str (ofChars x)) (Ps ps)) : (ev P (n + 3) q).e (.mth .append (.var 2) (.cons e .nil)) env (Ps ps) = .ok .non (Ps (ps ++ [x])) := by
  have hs : sget (Ps ps) 0 = some (.lst (ps.map fun l => .str (ofChars l))) := rfl
  have hb : Nat.blt (ps.map fun l => D.str (ofChars l)).length line = true := by
    rw [List.length_map]
    simp [Nat.blt_eq, line]; omega
  rw [e_mth', e_var', h2, okO_s, r_bind]
  simp only [kdOf, hs, hasM, if_true, es_cons', he, es_nil', r_bind, mthV, mthL, mthL1]
  rw [if_pos hb, r_val, Ps, Ps, sput_0, List.map_append]
  rfl
theorem join_flat : ∀ ps : List (List Nat), joinS [] (ps.map fun l => .str (ofChars l)) = some ps.flatten
  | [] => rfl
  | [a] => by simp [joinS]
  | a :: b :: r => by
    have ih := join_flat (b :: r)
    rw [List.map_cons] at ih
    rw [List.map_cons, List.map_cons, joinS, ih]
    simp
theorem slc2 (n q j k : Nat) (env : Env) (st : Sto) (A m B : List Nat) (h0 : env.get 0 = some (.str (ofChars (A ++ (m ++ B))))) (h1 : env.get j = some (.int ((A.length : Nat) : Int))) (h4 : env.get k = some (.int ((A.length + m.length : Nat) : Int))) (hl : (A ++ (m ++ B)).length ≤ 2000000) : (ev P (n + 2) q).e (.slc (.var 0) (.var j) (.var k)) env st = .ok (.str (ofChars m)) st := by
  rw [e_slc', varv _ _ _ _ _ _ h0, r_bind, opt_var, varv _ _ _ _ _ _ h1, r_bind]
  simp only [r_bind, opt_var]
  rw [varv _ _ _ _ _ _ h4, r_bind]
  simp only [r_bind, cut]
  rw [oc_len, if_pos (small_of (by omega)), oc_tl, cut_mid]
  rfl
theorem slc3 (n q : Nat) (env : Env) (st : Sto) (A : List Nat) (c d : Nat) (B : List Nat) (h0 : env.get 0 = some (.str (ofChars (A ++ c :: d :: B)))) (h4 : env.get 4 = some (.int ((A.length : Nat) : Int))) (hl : (A ++ c :: d :: B).length ≤ 2000000) : (ev P (n + 3) q).e (.slc (.var 0) (.bin .add (.var 4) (.cst (.int 1))) (.bin .add (.var 4) (.cst (.int 2)))) env st = .ok (.str (ofChars [d])) st := by
  have e1 := addv (n + 1) q (.var 4) (.cst (.int 1)) env st A.length 1 (varv _ _ _ _ _ _ h4) (e_cst' _)
  have e2 := addv (n + 1) q (.var 4) (.cst (.int 2)) env st A.length 2 (varv _ _ _ _ _ _ h4) (e_cst' _)
  have hd : (A ++ c :: d :: B).drop (A.length + 1) = d :: B := by
    rw [show A ++ c :: d :: B = (A ++ [c]) ++ d :: B by simp, List.drop_left' (by simp)]
  rw [e_slc', varv _ _ _ _ _ _ h0, r_bind, opt_bin, e1, r_bind]
  simp only [r_bind, opt_bin]
  rw [e2, r_bind]
  simp only [r_bind, cut, oc_len]
  rw [if_pos (small_of (by omega)), oc_tl, show ((A.length : Nat) : Int) + 1 = ((A.length + 1 : Nat) : Int) from rfl, show ((A.length : Nat) : Int) + 2 = ((A.length + 2 : Nat) : Int) from rfl, cutL_n, hd, show A.length + 2 - (A.length + 1) = 1 by omega]
  rfl
def Te (X : Str) (p : Int) (a3 a4 a5 a6 a7 : Option D) : Env := [some (.str X), some (.int p), some (.ref 0), a3, a4, a5, a6, a7]
def TB2 : S := (.seq (.ife (.val (.cmp .eq (.var 4) (.var 3))) (.seq (.ret (.tup (.cons (.mth .join (.cst (.str ⟨#[]⟩)) (.cons (.var 2) .nil)) (.cons (.bin .add (.var 4) (.cst (.int 1))) .nil)))) .skip) .skip) (.seq (.ife (.val (.cmp .ne (.var 4) (.var 5))) (.seq .nev .skip) .skip) (.seq (.asg (.nm 7) (.slc (.var 0) (.bin .add (.var 4) (.cst (.int 1))) (.bin .add (.var 4) (.cst (.int 2))))) (.seq (.ife (.or (.val (.cmp .notin (.var 7) (.tup (.cons (.cst (.str ⟨#[34]⟩)) (.cons (.cst (.str ⟨#[92]⟩)) (.cons (.cst (.str ⟨#[110]⟩)) .nil)))))) (.val (.cmp .eq (.var 7) (.cst (.str ⟨#[]⟩))))) (.seq .nev .skip) .skip) (.seq (.exp (.mth .append (.var 2) (.cons (.ifx (.val (.cmp .eq (.var 7) (.cst (.str ⟨#[110]⟩)))) (.cst (.str ⟨#[10]⟩)) (.var 7)) .nil))) (.seq (.asg (.nm 1) (.bin .add (.var 4) (.cst (.int 2)))) .skip))))))
def TB : S := (.seq (.asg (.nm 3) (.mth .find (.var 0) (.cons (.cst (.str ⟨#[34]⟩)) (.cons (.var 1) .nil)))) (.seq (.asg (.nm 4) (.ifx (.val (.cmp .ge (.var 3) (.cst (.int 0)))) (.var 3) (.blt .len (.cons (.var 0) .nil)))) (.seq (.asg (.nm 5) (.mth .find (.var 0) (.cons (.cst (.str ⟨#[92]⟩)) (.cons (.var 1) (.cons (.var 4) .nil))))) (.seq (.ife (.val (.cmp .ge (.var 5) (.cst (.int 0)))) (.seq (.asg (.nm 4) (.var 5)) .skip) .skip) (.seq (.asg (.nm 6) (.mth .find (.var 0) (.cons (.cst (.str ⟨#[10]⟩)) (.cons (.var 1) (.cons (.var 4) .nil))))) (.seq (.ife (.val (.cmp .ge (.var 6) (.cst (.int 0)))) (.seq .nev .skip) .skip) (.seq (.exp (.mth .append (.var 2) (.cons (.slc (.var 0) (.var 1) (.var 4)) .nil))) TB2)))))))
theorem ta_eq : b_text_at = .seq (.asg (.nm 2) (.lst .nil)) (.seq (.whl (.val (.cst (.bl true))) TB) .skip) := rfl
theorem s4e (n q : Nat) (X : Str) (p : Int) (a3 a6 a7 : Option D) (e4 e5 e : Int) (ps : List (List Nat)) (b : S) (h : (e5 < 0 ∧ e = e4) ∨ (0 ≤ e5 ∧ e = e5)) : (ev P (n + 10) q).s (.seq (.ife (.val (.cmp .ge (.var 5) (.cst (.int 0)))) (.seq (.asg (.nm 4) (.var 5)) .skip) .skip) b) (Te X p a3 (some (.int e4)) (some (.int e5)) a6 a7) (Ps ps) = (ev P (n + 9) q).s b (Te X p a3 (some (.int e)) (some (.int e5)) a6 a7) (Ps ps) := by
  have t := ge0 (n + 5) q 5 (Te X p a3 (some (.int e4)) (some (.int e5)) a6 a7) (Ps ps) e5 rfl
  rcases h with ⟨h, rfl⟩ | ⟨h, rfl⟩
  · rw [decide_eq_true h] at t
    exact seq_f (n := n + 7) t
  · rw [decide_eq_false (by omega)] at t
    exact seq_tn (n := n + 7) t (asgN (n := n + 6) (i := 4) (d := .int e) (varv _ _ _ _ _ _ rfl))
/-- the first part of a turn: up to the next sign that is told otherwise, or the quote -/
theorem th (n q : Nat) (A p M R : List Nat) (a3 a4 a5 a6 a7 : Option D) (ps : List (List Nat)) (hp : ∀ c ∈ p, plainC c) (hM : 34 ∉ M) (hM2 : M = [] ∨ ∃ M', M = 92 :: M') (hl : (A ++ (p ++ (M ++ 34 :: R))).length ≤ 2000000) (hps : ps.length ≤ 5000) : ∃ s5 : Int, (M ≠ [] → s5 = ((A.length + p.length : Nat) : Int)) ∧ (ev P (n + 60) q).s TB (Te (ofChars (A ++ (p ++ (M ++ 34 :: R)))) ((A.length : Nat) : Int) a3 a4 a5 a6 a7) (Ps ps) = (ev P (n + 53) q).s TB2 (Te (ofChars (A ++ (p ++ (M ++ 34 :: R)))) ((A.length : Nat) : Int) (some (.int ((A.length + p.length + M.length : Nat) : Int))) (some (.int ((A.length + p.length : Nat) : Int))) (some (.int s5)) (some (.int (-1))) a7) (Ps (ps ++ [p])) := by
  have n34 : 34 ∉ p ++ M := fun h => by
    rcases List.mem_append.mp h with h | h
    · exact (hp _ h).2.1 rfl
    · exact hM h
  have n92 : 92 ∉ p := fun h => (hp _ h).1 rfl
  have n10 : 10 ∉ p := fun h => (hp _ h).2.2 rfl
  generalize hX : ofChars (A ++ (p ++ (M ++ 34 :: R))) = X
  have f3 : findC 34 (p ++ (M ++ 34 :: R)) A.length = ((A.length + p.length + M.length : Nat) : Int) := by
    rw [← List.append_assoc, find_at _ n34, List.length_append, Nat.add_assoc]
  obtain ⟨s5, h5, f5, hs5⟩ : ∃ s5 : Int, (M ≠ [] → s5 = ((A.length + p.length : Nat) : Int)) ∧ findC 92 (p ++ M) A.length = s5 ∧ ((s5 < 0 ∧ ((A.length + p.length : Nat) : Int) = ((A.length + p.length + M.length : Nat) : Int)) ∨ (0 ≤ s5 ∧ ((A.length + p.length : Nat) : Int) = s5)) := by
    rcases hM2 with rfl | ⟨M', rfl⟩
    · exact ⟨-1, fun h => absurd rfl h, by rw [List.append_nil, find_no _ n92], .inl ⟨by decide, by simp⟩⟩
    · exact ⟨_, fun _ => rfl, find_at _ n92, .inr ⟨by omega, rfl⟩⟩
  refine ⟨s5, h5, ?_⟩
  unfold TB
  have e1 := find2 (n + 48) q (Te X ((A.length : Nat) : Int) a3 a4 a5 a6 a7) (Ps ps) A (p ++ (M ++ 34 :: R)) 34 (by rw [hX]; rfl) rfl
  rw [f3] at e1
  rw [show n + 60 = n + 48 + 10 + 2 from rfl, asgS e1]
  generalize hq : ((A.length + p.length + M.length : Nat) : Int) = Q
  have e2 : (ev P (n + 57) q).e (.ifx (.val (.cmp .ge (.var 3) (.cst (.int 0)))) (.var 3) (.blt .len (.cons (.var 0) .nil))) (Te X ((A.length : Nat) : Int) (some (.int Q)) a4 a5 a6 a7) (Ps ps) = .ok (.int Q) (Ps ps) := by
    rw [e_ifx', ge0 (n + 53) q 3 _ _ Q rfl, decide_eq_false (by omega), r_bind]
    simp only [Bool.not_false, if_true]
    exact varv _ _ _ _ _ _ rfl
  rw [show Env.put (Te X ((A.length : Nat) : Int) a3 a4 a5 a6 a7) 3 (.int Q) = Te X ((A.length : Nat) : Int) (some (.int Q)) a4 a5 a6 a7 from rfl, show n + 48 + 10 + 1 = n + 57 + 2 from rfl, asgS e2]
  rw [show Env.put (Te X ((A.length : Nat) : Int) (some (.int Q)) a4 a5 a6 a7) 4 (.int Q) = Te X ((A.length : Nat) : Int) (some (.int Q)) (some (.int Q)) a5 a6 a7 from rfl]
  have e3 := find3 (n + 46) q (Te X ((A.length : Nat) : Int) (some (.int Q)) (some (.int Q)) a5 a6 a7) (Ps ps) A (p ++ M) (34 :: R) 92 (by rw [← hX]; simp [Te]) rfl (by rw [← hq]; simp [Te]; omega)
  rw [f5] at e3
  rw [show n + 57 + 1 = n + 46 + 10 + 2 from rfl, asgS e3]
  rw [show Env.put (Te X ((A.length : Nat) : Int) (some (.int Q)) (some (.int Q)) a5 a6 a7) 5 (.int s5) = Te X ((A.length : Nat) : Int) (some (.int Q)) (some (.int Q)) (some (.int s5)) a6 a7 from rfl]
  rw [hq] at hs5
  rw [show n + 46 + 10 + 1 = n + 47 + 10 from rfl, s4e (n + 47) q X _ _ a6 a7 Q s5 ((A.length + p.length : Nat) : Int) ps _ hs5]
  have e5 := find3 (n + 44) q (Te X ((A.length : Nat) : Int) (some (.int Q)) (some (.int ((A.length + p.length : Nat) : Int))) (some (.int s5)) a6 a7) (Ps ps) A p (M ++ 34 :: R) 10 (by rw [← hX]; rfl) rfl rfl
  rw [find_no _ n10] at e5
  rw [show n + 47 + 9 = n + 44 + 10 + 2 from rfl, asgS e5]
  rw [show Env.put (Te X ((A.length : Nat) : Int) (some (.int Q)) (some (.int ((A.length + p.length : Nat) : Int))) (some (.int s5)) a6 a7) 6 (.int (-1)) = Te X ((A.length : Nat) : Int) (some (.int Q)) (some (.int ((A.length + p.length : Nat) : Int))) (some (.int s5)) (some (.int (-1))) a7 from rfl]
  have t6 := ge0 (n + 50) q 6 (Te X ((A.length : Nat) : Int) (some (.int Q)) (some (.int ((A.length + p.length : Nat) : Int))) (some (.int s5)) (some (.int (-1))) a7) (Ps ps) (-1) rfl
  rw [show (!decide ((-1 : Int) < 0)) = false from rfl] at t6
  rw [show n + 44 + 10 + 1 = n + 52 + 3 from rfl, seq_f (n := n + 52) t6]
  have e7 := appS (n + 49) q _ (Te X ((A.length : Nat) : Int) (some (.int Q)) (some (.int ((A.length + p.length : Nat) : Int))) (some (.int s5)) (some (.int (-1))) a7) ps p rfl hps (slc2 (n + 48) q 1 4 _ _ A p (M ++ 34 :: R) (by rw [← hX]; rfl) rfl rfl hl)
  rw [show n + 52 + 2 = n + 49 + 3 + 2 from rfl, expS e7]
/-- the last turn -/
theorem t_end (n q : Nat) (X : Str) (p e : Int) (a5 a6 a7 : Option D) (ps : List (List Nat)) (hl : ps.flatten.length ≤ 1000000) : (ev P (n + 53) q).s TB2 (Te X p (some (.int e)) (some (.int e)) a5 a6 a7) (Ps ps) = .ok (.rt (.tup [.str (ofChars ps.flatten), .int (e + 1)])) (Ps ps) := by
  unfold TB2
  have t : (ev P (n + 51) q).t (.val (.cmp .eq (.var 4) (.var 3))) (Te X p (some (.int e)) (some (.int e)) a5 a6 a7) (Ps ps) = .ok true (Ps ps) := by
    rw [t_val', e_cmp', varv _ _ 4 _ _ (.int e) rfl, r_bind, varv _ _ 3 _ _ (.int e) rfl, r_bind, eqi, beq_self_eq_true]
    rfl
  refine seq_tr (n := n + 50) t (retS (n := n + 49) ?_)
  have j := join0 (n + 44) q (.var 2) (Te X p (some (.int e)) (some (.int e)) a5 a6 a7) (Ps ps) (Ps ps) 0 _ ps.flatten (varv _ _ _ _ _ _ rfl) rfl (join_flat ps) hl
  have a := addv (n + 45) q (.var 4) (.cst (.int 1)) (Te X p (some (.int e)) (some (.int e)) a5 a6 a7) (Ps ps) e 1 (varv _ _ _ _ _ _ rfl) (e_cst' _)
  rw [show n + 44 + 3 = n + 47 from rfl] at j
  rw [show n + 45 + 1 = n + 46 from rfl] at a
  rw [e_tup', es_cons', j]
  simp only [es_cons', es_nil', a, r_bind]
  rw [if_pos (small_of (by simp))]
/-- a sign that is told otherwise -/
theorem t_go (n q : Nat) (A : List Nat) (d : Nat) (B : List Nat) (p Q : Int) (a6 a7 : Option D) (ps : List (List Nat)) (hd : d = 34 ∨ d = 92 ∨ d = 110) (hQ : ((A.length : Nat) : Int) < Q) (hl : (A ++ 92 :: d :: B).length ≤ 2000000) (hps : ps.length ≤ 5000) : (ev P (n + 53) q).s TB2 (Te (ofChars (A ++ 92 :: d :: B)) p (some (.int Q)) (some (.int ((A.length : Nat) : Int))) (some (.int ((A.length : Nat) : Int))) a6 a7) (Ps ps) = .ok (.nx (Te (ofChars (A ++ 92 :: d :: B)) ((A.length + 2 : Nat) : Int) (some (.int Q)) (some (.int ((A.length : Nat) : Int))) (some (.int ((A.length : Nat) : Int))) a6 (some (.str (ofChars [d]))))) (Ps (ps ++ [[if d = 110 then 10 else d]])) := by
  unfold TB2
  generalize hX : ofChars (A ++ 92 :: d :: B) = X
  generalize hL : ((A.length : Nat) : Int) = L at *
  have t1 : (ev P (n + 51) q).t (.val (.cmp .eq (.var 4) (.var 3))) (Te X p (some (.int Q)) (some (.int L)) (some (.int L)) a6 a7) (Ps ps) = .ok false (Ps ps) := by
    rw [t_val', e_cmp', varv _ _ 4 _ _ (.int L) rfl, r_bind, varv _ _ 3 _ _ (.int Q) rfl, r_bind, eqi, show (L == Q) = false by simp; omega]
    rfl
  rw [seq_f (n := n + 50) t1]
  have t2 : (ev P (n + 50) q).t (.val (.cmp .ne (.var 4) (.var 5))) (Te X p (some (.int Q)) (some (.int L)) (some (.int L)) a6 a7) (Ps ps) = .ok false (Ps ps) := by
    rw [t_val', e_cmp', varv _ _ 4 _ _ (.int L) rfl, r_bind, varv _ _ 5 _ _ (.int L) rfl, r_bind]
    simp only [cmpop, eqR, D.plain, D.pl, D.eqv, Bool.and_self, if_true, beq_self_eq_true]
    rfl
  rw [show n + 50 + 2 = n + 49 + 3 from rfl, seq_f (n := n + 49) t2]
  have e3 := slc3 (n + 46) q (Te X p (some (.int Q)) (some (.int L)) (some (.int L)) a6 a7) (Ps ps) A 92 d B (by rw [hX]; rfl) (by rw [hL]; rfl) hl
  rw [show n + 49 + 2 = n + 46 + 3 + 2 from rfl, asgS e3]
  rw [show Env.put (Te X p (some (.int Q)) (some (.int L)) (some (.int L)) a6 a7) 7 (.str (ofChars [d])) = Te X p (some (.int Q)) (some (.int L)) (some (.int L)) a6 (some (.str (ofChars [d]))) from rfl]
  have t4 : (ev P (n + 48) q).t (.or (.val (.cmp .notin (.var 7) (.tup (.cons (.cst (.str ⟨#[34]⟩)) (.cons (.cst (.str ⟨#[92]⟩)) (.cons (.cst (.str ⟨#[110]⟩)) .nil)))))) (.val (.cmp .eq (.var 7) (.cst (.str ⟨#[]⟩))))) (Te X p (some (.int Q)) (some (.int L)) (some (.int L)) a6 (some (.str (ofChars [d])))) (Ps ps) = .ok false (Ps ps) := by
    have hn : cmpop .notin (.str (ofChars [d])) (.tup [.str ⟨#[34]⟩, .str ⟨#[92]⟩, .str ⟨#[110]⟩]) (Ps ps) = some false := by
      rcases hd with rfl | rfl | rfl <;> rfl
    rw [t_or', t_val', e_cmp', varv _ _ 7 _ _ (.str (ofChars [d])) rfl, r_bind, e_tup']
    simp only [es_cons', es_nil', e_cst', r_bind]
    rw [if_pos (small_of (by simp)), r_bind, hn]
    simp only [ofB_s, r_bind, truth, okO_s, Bool.false_eq_true, if_false]
    rw [eqv (n + 44) q _ _ _ (ofChars [d]) _ (varv _ _ _ _ _ _ rfl), sEq_e]
  rw [show n + 46 + 3 + 1 = n + 47 + 3 from rfl, seq_f (n := n + 47) t4]
  have e5 : (ev P (n + 45) q).e (.ifx (.val (.cmp .eq (.var 7) (.cst (.str ⟨#[110]⟩)))) (.cst (.str ⟨#[10]⟩)) (.var 7)) (Te X p (some (.int Q)) (some (.int L)) (some (.int L)) a6 (some (.str (ofChars [d])))) (Ps ps) = .ok (.str (ofChars [if d = 110 then 10 else d])) (Ps ps) := by
    rw [e_ifx', eqv (n + 41) q _ _ _ (ofChars [d]) _ (varv _ _ _ _ _ _ rfl), r_bind, sEq_1]
    by_cases h : d = 110
    · rw [decide_eq_true h, if_pos h, if_pos rfl, e_cst']
      rfl
    · rw [decide_eq_false h, if_neg h, if_neg (by decide)]
      exact varv _ _ _ _ _ _ rfl
  rw [show n + 47 + 2 = n + 44 + 3 + 2 from rfl, expS (appS (n + 44) q _ _ ps _ rfl hps e5)]
  have e6 := addv (n + 45) q (.var 4) (.cst (.int 2)) (Te X p (some (.int Q)) (some (.int L)) (some (.int L)) a6 (some (.str (ofChars [d])))) (Ps (ps ++ [[if d = 110 then 10 else d]])) L 2 (varv _ _ _ _ _ _ rfl) (e_cst' _)
  rw [show n + 44 + 3 + 1 = n + 45 + 1 + 2 from rfl, asgN e6, show ((A.length + 2 : Nat) : Int) = L + 2 by omega]
  rfl
theorem tloop (n q : Nat) (suf : List Nat) : ∀ (m : Nat) (l A : List Nat) (ps : List (List Nat)) (a3 a4 a5 a6 a7 : Option D), l.length < m → (A ++ (l.flatMap esc ++ 34 :: suf)).length ≤ 2000000 → ps.length + 2 * l.length ≤ 4000 → (ps.flatten ++ l).length ≤ 1000000 → ∃ ps', whGo (ev P (n + 60) q) (.val (.cst (.bl true))) TB m (Te (ofChars (A ++ (l.flatMap esc ++ 34 :: suf))) ((A.length : Nat) : Int) a3 a4 a5 a6 a7) (Ps ps) = .ok (.rt (.tup [.str (ofChars (ps.flatten ++ l)), .int ((A.length + (l.flatMap esc).length + 1 : Nat) : Int)])) (Ps ps')
  | 0, l, A, ps, a3, a4, a5, a6, a7, hm, _, _, _ => absurd hm (by omega)
  | m + 1, l, A, ps, a3, a4, a5, a6, a7, hm, hl, hps, hf => by
    have t : ∀ env st, (ev P (n + 60) q).t (.val (.cst (.bl true))) env st = .ok true st := fun env st => by
      rw [t_val', e_cst', r_bind]
      rfl
    obtain ⟨p, hp, hsp⟩ := split_plain l
    rcases hsp with rfl | ⟨c, r, hc, rfl⟩
    · rw [fm_plain hp] at hl ⊢
      obtain ⟨s5, _, e⟩ := th n q A l [] suf a3 a4 a5 a6 a7 ps hp (by simp) (.inl rfl) hl (by omega)
      rw [List.nil_append] at e
      refine ⟨ps ++ [l], ?_⟩
      rw [whGo_s, t, r_bind, if_pos rfl, e, show A.length + l.length + [].length = A.length + l.length from rfl, t_end n q _ _ _ _ _ _ _ (by simpa using hf), r_bind, List.flatten_append]
      simp
    · obtain ⟨d, ed, hd, hcd⟩ := esc_not hc
      have eB : (p ++ c :: r).flatMap esc = p ++ 92 :: d :: r.flatMap esc := by
        rw [List.flatMap_append, fm_plain hp, List.flatMap_cons, ed]
        rfl
      rw [eB] at hl ⊢
      obtain ⟨M', R, eM, hM⟩ := first_of (c := 34) (l := d :: (r.flatMap esc ++ 34 :: suf)) (by simp)
      have eT : A ++ (p ++ 92 :: d :: r.flatMap esc ++ 34 :: suf) = A ++ (p ++ ((92 :: M') ++ 34 :: R)) := by
        simp [← eM]
      obtain ⟨s5, h5, e⟩ := th n q A p (92 :: M') R a3 a4 a5 a6 a7 ps hp (by simp [hM]) (.inr ⟨M', rfl⟩) (by rw [← eT]; exact hl) (by omega)
      rw [h5 (by simp), ← eT] at e
      have eU : A ++ (p ++ 92 :: d :: r.flatMap esc ++ 34 :: suf) = (A ++ p) ++ 92 :: d :: (r.flatMap esc ++ 34 :: suf) := by simp
      have eL : A.length + p.length = (A ++ p).length := by simp
      rw [eU, eL] at e
      rw [eU] at hl
      have g := t_go n q (A ++ p) d (r.flatMap esc ++ 34 :: suf) ((A.length : Nat) : Int) (((A ++ p).length + (92 :: M').length : Nat) : Int) (some (.int (-1))) a7 (ps ++ [p]) hd (by rw [List.length_cons]; omega) hl (by simp at hps ⊢; omega)
      have eV : (A ++ p) ++ 92 :: d :: (r.flatMap esc ++ 34 :: suf) = ((A ++ p) ++ [92, d]) ++ (r.flatMap esc ++ 34 :: suf) := by simp
      obtain ⟨ps', ih⟩ := tloop n q suf m r ((A ++ p) ++ [92, d]) (ps ++ [p] ++ [[if d = 110 then 10 else d]]) (some (.int (((A ++ p).length + (92 :: M').length : Nat) : Int))) (some (.int (((A ++ p).length : Nat) : Int))) (some (.int (((A ++ p).length : Nat) : Int))) (some (.int (-1))) (some (.str (ofChars [d]))) (by simp at hm; omega) (by rw [← eV]; exact hl) (by simp at hps ⊢; omega) (by simp at hf ⊢; omega)
      refine ⟨ps', ?_⟩
      rw [whGo_s, t, r_bind, if_pos rfl, eU, e, g, r_bind]
      simp only []
      rw [← eV, show ((A ++ p) ++ [92, d]).length = (A ++ p).length + 2 by rw [List.length_append (as := A ++ p)]; rfl] at ih
      rw [ih, ← hcd]
      have e1 : (ps ++ [p] ++ [[c]]).flatten ++ r = ps.flatten ++ (p ++ c :: r) := by simp
      have e2 : (A ++ p).length + 2 + (r.flatMap esc).length + 1 = A.length + (p ++ 92 :: d :: r.flatMap esc).length + 1 := by simp; omega
      rw [e1, e2]
theorem text_at (n q : Nat) (s : Str) (hs : s.length ≤ 1000) (A suf : List Nat) (hl : (A ++ (quo s.cps.toList ++ 34 :: suf)).length ≤ 2000000) (hn : 1010 ≤ n) (st : Sto) : callF P (ev P (n + 62) q) 5 [.str (ofChars (A ++ (quo s.cps.toList ++ 34 :: suf))), .int ((A.length : Nat) : Int)] st = .ok (.tup [.str s, .int ((A.length + (quo s.cps.toList).length + 1 : Nat) : Int)]) st := by
  have hs' : s.cps.toList.length ≤ 1000 := by simpa [Str.length] using hs
  rw [quo_esc] at hl ⊢
  obtain ⟨ps', e⟩ := tloop (n - 1) q suf (n + 59) s.cps.toList A [] none none none none none (by omega) hl (by rw [List.length_nil]; omega) (by rw [List.flatten_nil, List.nil_append]; omega)
  refine call_low (fn := f_text_at) (st' := Ps ps') rfl rfl rfl ?_ rfl
  generalize hX : ofChars (A ++ (s.cps.toList.flatMap esc ++ 34 :: suf)) = X at e
  show (ev P (n + 62) q).s b_text_at (Env.new 8 [.str X, .int ((A.length : Nat) : Int)]) [] = _
  rw [show Env.new 8 [.str X, .int ((A.length : Nat) : Int)] = [some (.str X), some (.int ((A.length : Nat) : Int)), none, none, none, none, none, none] from rfl, ta_eq]
  rw [show n + 62 = n + 60 + 2 from rfl, asgS (n := n + 60) (d := .ref 0) (st' := Ps []) (by simp [small, line, Nat.ble_eq, new]; rfl)]
  rw [show Env.put [some (.str X), some (.int ((A.length : Nat) : Int)), none, none, none, none, none, none] 2 (.ref 0) = Te X ((A.length : Nat) : Int) none none none none none from rfl]
  refine seq_r (n := n + 60) ?_
  rw [show n + 60 = n + 59 + 1 from rfl, s_whl']
  rw [show n - 1 + 60 = n + 59 by omega] at e
  rw [e]
  simp
end Lw
end

section
set_option autoImplicit false
set_option Elab.async false
set_option linter.all false
set_option maxRecDepth 100000
namespace Lw
open Ev
open PySem (Str)
def Ve (X : Str) (p w : Int) (sg : Option D) : Env := [some (.str X), some (.int p), some (.int w), sg]
def V1 (x : Nat) (a b : S) : S := .seq (.ife (.val (.cmp .eq (.var 3) (.cst (.str ⟨#[x]⟩)))) a .skip) b
def Vc (d : D) : S := .seq (.ret (.tup (.cons (.cst d) (.cons (.bin .add (.var 1) (.cst (.int 1))) .nil)))) .skip
def V5 : S := .seq (.ret (.call 5 (.cons (.var 0) (.cons (.bin .add (.var 1) (.cst (.int 1))) .nil)))) .skip
def V6 : S := (.seq (.ife (.val (.cmp .eq (.var 2) (.glb "MOST_BRACKETS" (.int 40)))) (.seq .nev .skip) .skip) (.seq (.ret (.call 6 (.cons (.var 0) (.cons (.bin .add (.var 1) (.cst (.int 1))) (.cons (.bin .add (.var 2) (.cst (.int 1))) .nil))))) .skip))
def V4 : S := .seq (.ret (.call 4 (.cons (.var 0) (.cons (.var 1) .nil)))) .skip
theorem va_eq : b_value_at = .seq (.asg (.nm 3) (sl 1)) (V1 78 (Vc .non) (V1 84 (Vc (.bl true)) (V1 70 (Vc (.bl false)) (V1 34 V5 (V1 40 V6 V4))))) := rfl
theorem v1_t (n q : Nat) (X : Str) (p w : Int) (x : Nat) (a b : S) (st : Sto) (d : D) (st' : Sto) (h : (ev P (n + 4) q).s a (Ve X p w (some (.str (ofChars [x])))) st = .ok (.rt d) st') : (ev P (n + 6) q).s (V1 x a b) (Ve X p w (some (.str (ofChars [x])))) st = .ok (.rt d) st' := by
  have t := eqv (n + 1) q (.var 3) (Ve X p w (some (.str (ofChars [x])))) st (ofChars [x]) ⟨#[x]⟩ (varv _ _ _ _ _ _ rfl)
  rw [sEq_1, decide_eq_true rfl] at t
  exact seq_tr (n := n + 3) t h
theorem v1_f (n q : Nat) (X : Str) (p w : Int) (c x : Nat) (a b : S) (st : Sto) (h : c ≠ x) : (ev P (n + 6) q).s (V1 x a b) (Ve X p w (some (.str (ofChars [c])))) st = (ev P (n + 5) q).s b (Ve X p w (some (.str (ofChars [c])))) st := by
  have t := eqv (n + 1) q (.var 3) (Ve X p w (some (.str (ofChars [c])))) st (ofChars [c]) ⟨#[x]⟩ (varv _ _ _ _ _ _ rfl)
  rw [sEq_1, decide_eq_false h] at t
  exact seq_f (n := n + 3) t
theorem vc_ok (n q : Nat) (X : Str) (p w : Int) (sg : Option D) (d : D) (st : Sto) : (ev P (n + 7) q).s (Vc d) (Ve X p w sg) st = .ok (.rt (.tup [d, .int (p + 1)])) st := by
  have a := addv (n + 1) q (.var 1) (.cst (.int 1)) (Ve X p w sg) st p 1 (varv _ _ _ _ _ _ rfl) (e_cst' _)
  refine retS (n := n + 5) ?_
  rw [show n + 1 + 1 = n + 2 from rfl] at a
  rw [e_tup', es_cons', e_cst', r_bind, es_cons', a, r_bind]
  simp only [es_nil', r_bind]
  rw [if_pos (small_of (by simp))]
/-- the start: the sign at the place -/
theorem va_sign (n q : Nat) (A : List Nat) (c : Nat) (r : List Nat) (w : Int) (hl : (A ++ c :: r).length ≤ 2000000) (st : Sto) : (ev P (n + 10) q).s b_value_at (Env.new 4 [.str (ofChars (A ++ c :: r)), .int ((A.length : Nat) : Int), .int w]) st = (ev P (n + 9) q).s (V1 78 (Vc .non) (V1 84 (Vc (.bl true)) (V1 70 (Vc (.bl false)) (V1 34 V5 (V1 40 V6 V4))))) (Ve (ofChars (A ++ c :: r)) ((A.length : Nat) : Int) w (some (.str (ofChars [c])))) st := by
  rw [va_eq, show Env.new 4 [.str (ofChars (A ++ c :: r)), .int ((A.length : Nat) : Int), .int w] = Ve (ofChars (A ++ c :: r)) ((A.length : Nat) : Int) w none from rfl]
  have e := slc1 (n + 5) q 0 0 (Ve (ofChars (A ++ c :: r)) ((A.length : Nat) : Int) w none) st A (c :: r) 1 rfl rfl hl
  unfold sl
  rw [show n + 10 = n + 5 + 3 + 2 from rfl, asgS e]
  rfl
theorem rd_leaf (n q : Nat) (d : D) (h : Leaf d) (pre suf : List Nat) (w : Int) (hs : Behind suf) (hl : (pre ++ (leafT d ++ suf)).length ≤ 2000000) (st : Sto) : callF P (ev P (n + 1100) (q + 1)) 3 [.str (ofChars (pre ++ (leafT d ++ suf))), .int ((pre.length : Nat) : Int), .int w] st = .ok (.tup [d, .int ((pre.length + (leafT d).length : Nat) : Int)]) st := by
  cases d with
  | tup xs => exact h.elim
  | ref l => exact h.elim
  | fn l => exact h.elim
  | rol l => exact h.elim
  | non =>
    refine call_low (fn := f_value_at) (st' := []) rfl rfl rfl ?_ rfl
    rw [show leafT .non ++ suf = 78 :: suf from rfl] at hl ⊢
    show (ev P (n + 1090 + 10) (q + 1)).s b_value_at (Env.new 4 _) [] = _
    rw [va_sign (n + 1090) (q + 1) pre 78 suf w hl []]
    exact v1_t (n + 1093) (q + 1) _ _ w 78 _ _ _ _ _ (vc_ok (n + 1090) (q + 1) _ _ _ _ _ _)
  | bl b =>
    refine call_low (fn := f_value_at) (st' := []) rfl rfl rfl ?_ rfl
    cases b
    · rw [show leafT (.bl false) ++ suf = 70 :: suf from rfl] at hl ⊢
      show (ev P (n + 1090 + 10) (q + 1)).s b_value_at (Env.new 4 _) [] = _
      rw [va_sign (n + 1090) (q + 1) pre 70 suf w hl [], show n + 1090 + 9 = n + 1093 + 6 from rfl, v1_f (n + 1093) (q + 1) _ _ w 70 78 _ _ _ (by decide), show n + 1093 + 5 = n + 1092 + 6 from rfl, v1_f (n + 1092) (q + 1) _ _ w 70 84 _ _ _ (by decide)]
      exact v1_t (n + 1091) (q + 1) _ _ w 70 _ _ _ _ _ (vc_ok (n + 1088) (q + 1) _ _ _ _ _ _)
    · rw [show leafT (.bl true) ++ suf = 84 :: suf from rfl] at hl ⊢
      show (ev P (n + 1090 + 10) (q + 1)).s b_value_at (Env.new 4 _) [] = _
      rw [va_sign (n + 1090) (q + 1) pre 84 suf w hl [], show n + 1090 + 9 = n + 1093 + 6 from rfl, v1_f (n + 1093) (q + 1) _ _ w 84 78 _ _ _ (by decide)]
      exact v1_t (n + 1092) (q + 1) _ _ w 84 _ _ _ _ _ (vc_ok (n + 1089) (q + 1) _ _ _ _ _ _)
  | int i =>
    obtain ⟨c, r, e, hc⟩ : ∃ c r, leafT (.int i) ++ suf = c :: r ∧ (isDg c ∨ c = 45) := by
      obtain ⟨s, m, e, hs', _⟩ := int_txt i h
      obtain ⟨c, r, ed, hd, _⟩ := num_head m
      rw [show leafT (.int i) = s ++ TL.numL m from e, ed]
      rcases hs' with ⟨rfl, _⟩ | ⟨rfl, _⟩
      · exact ⟨c, r ++ suf, by simp, .inl hd⟩
      · exact ⟨45, c :: (r ++ suf), by simp, .inr rfl⟩
    have ia := integer_at (n + 1021) q i h pre suf hs hl []
    refine call_low (fn := f_value_at) (st' := []) rfl rfl rfl ?_ rfl
    generalize (pre.length + (leafT (.int i)).length : Nat) = Z at *
    rw [e] at hl ia ⊢
    have hne : ∀ x, x ∈ [78, 84, 70, 34, 40] → c ≠ x := fun x hx => by
      unfold isDg at hc
      simp at hx
      omega
    show (ev P (n + 1090 + 10) (q + 1)).s b_value_at (Env.new 4 _) [] = _
    rw [va_sign (n + 1090) (q + 1) pre c r w hl [], show n + 1090 + 9 = n + 1093 + 6 from rfl, v1_f (n + 1093) (q + 1) _ _ w c 78 _ _ _ (hne _ (by simp)), show n + 1093 + 5 = n + 1092 + 6 from rfl, v1_f (n + 1092) (q + 1) _ _ w c 84 _ _ _ (hne _ (by simp)),
      show n + 1092 + 5 = n + 1091 + 6 from rfl, v1_f (n + 1091) (q + 1) _ _ w c 70 _ _ _ (hne _ (by simp)), show n + 1091 + 5 = n + 1090 + 6 from rfl, v1_f (n + 1090) (q + 1) _ _ w c 34 _ _ _ (hne _ (by simp)), show n + 1090 + 5 = n + 1089 + 6 from rfl, v1_f (n + 1089) (q + 1) _ _ w c 40 _ _ _ (hne _ (by simp))]
    unfold V4
    refine retS (n := n + 1092) ?_
    rw [show n + 1092 = n + 1091 + 1 from rfl, e_call']
    simp only [es_cons', es_nil', varv _ _ 0 (Ve (ofChars (pre ++ c :: r)) ((pre.length : Nat) : Int) w (some (.str (ofChars [c])))) [] _ rfl, varv _ _ 1 (Ve (ofChars (pre ++ c :: r)) ((pre.length : Nat) : Int) w (some (.str (ofChars [c])))) [] _ rfl, r_bind]
    rw [show n + 1021 + 70 = n + 1091 from rfl] at ia
    exact ia
  | str s =>
    have h8 : s.length ≤ 8 := h
    refine call_low (fn := f_value_at) (st' := []) rfl rfl rfl ?_ rfl
    have eT : leafT (.str s) ++ suf = 34 :: (quo s.cps.toList ++ 34 :: suf) := by simp [leafT]
    have eL : pre.length + (leafT (.str s)).length = (pre ++ [34]).length + (quo s.cps.toList).length + 1 := by simp [leafT]; omega
    rw [eT] at hl ⊢
    rw [eL]
    have eU : pre ++ 34 :: (quo s.cps.toList ++ 34 :: suf) = (pre ++ [34]) ++ (quo s.cps.toList ++ 34 :: suf) := by simp
    have ta := text_at (n + 1029) q s (by omega) (pre ++ [34]) suf (by rw [← eU]; exact hl) (by omega) []
    rw [← eU] at ta
    show (ev P (n + 1090 + 10) (q + 1)).s b_value_at (Env.new 4 _) [] = _
    rw [va_sign (n + 1090) (q + 1) pre 34 _ w hl [], show n + 1090 + 9 = n + 1093 + 6 from rfl, v1_f (n + 1093) (q + 1) _ _ w 34 78 _ _ _ (by decide), show n + 1093 + 5 = n + 1092 + 6 from rfl, v1_f (n + 1092) (q + 1) _ _ w 34 84 _ _ _ (by decide),
      show n + 1092 + 5 = n + 1091 + 6 from rfl, v1_f (n + 1091) (q + 1) _ _ w 34 70 _ _ _ (by decide)]
    refine v1_t (n + 1090) (q + 1) _ _ w 34 _ _ _ _ _ ?_
    unfold V5
    refine retS (n := n + 1092) ?_
    generalize hX : ofChars (pre ++ 34 :: (quo s.cps.toList ++ 34 :: suf)) = X at *
    have a : (ev P (n + 1089) (q + 1)).e (.bin .add (.var 1) (.cst (.int 1))) (Ve X ((pre.length : Nat) : Int) w (some (.str (ofChars [34])))) [] = .ok (.int ((pre.length : Nat) + 1 : Int)) [] := addv (n + 1088) (q + 1) (.var 1) (.cst (.int 1)) (Ve X ((pre.length : Nat) : Int) w (some (.str (ofChars [34])))) [] ((pre.length : Nat) : Int) 1 (varv _ _ _ _ _ _ rfl) (e_cst' _)
    rw [show n + 1092 = n + 1091 + 1 from rfl, e_call']
    simp only [es_cons', es_nil', varv _ _ 0 (Ve X ((pre.length : Nat) : Int) w (some (.str (ofChars [34])))) [] _ rfl, a, r_bind]
    have hz : (((pre ++ [34] : List Nat).length : Nat) : Int) = (pre.length : Int) + 1 := by simp
    rw [show n + 1029 + 62 = n + 1091 from rfl, hz] at ta
    exact ta
end Lw
end

section
set_option autoImplicit false
set_option Elab.async false
set_option linter.all false
set_option maxRecDepth 100000
namespace Lw
open Ev
open PySem (Str)
def UB : S := (.seq (.asg (.cons (.nm 4) (.cons (.nm 1) .nil)) (.call 3 (.cons (.var 0) (.cons (.var 1) (.cons (.var 2) .nil))))) (.seq (.exp (.mth .append (.var 3) (.cons (.var 4) .nil))) (.seq (.asg (.nm 5) (sl 1)) (.seq (.ife (.val (.cmp .eq (.var 5) (.cst (.str ⟨#[41]⟩)))) (.seq (.ret (.tup (.cons (.blt .tuple (.cons (.var 3) .nil)) (.cons (.bin .add (.var 1) (.cst (.int 1))) .nil)))) .skip) .skip) (.seq (.ife (.val (.cmp .ne (.var 5) (.cst (.str ⟨#[32]⟩)))) (.seq .nev .skip) .skip) (.seq (.aug 1 .add (.cst (.int 1))) .skip))))))
theorem tu_eq : b_tuple_at = (.seq (.ife (.val (.cmp .eq (sl 1) (.cst (.str ⟨#[41]⟩)))) (.seq (.ret (.tup (.cons (.tup .nil) (.cons (.bin .add (.var 1) (.cst (.int 1))) .nil)))) .skip) .skip) (.seq (.asg (.nm 3) (.lst .nil)) (.seq (.whl (.val (.cst (.bl true))) UB) .skip))) := rfl
def Ue (X : Str) (p w : Int) (a3 a4 a5 : Option D) : Env := [some (.str X), some (.int p), some (.int w), a3, a4, a5]
theorem appD (n q i j : Nat) (env : Env) (xs : List D) (x : D) (h3 : env.get i = some (.ref 0)) (h4 : env.get j = some x) (hl : xs.length ≤ 5000) : (ev P (n + 3) q).e (.mth .append (.var i) (.cons (.var j) .nil)) env [.lst xs] = .ok .non [.lst (xs ++ [x])] := by
  have hs : sget [O.lst xs] 0 = some (.lst xs) := rfl
  have hb : Nat.blt xs.length line = true := by
    simp [Nat.blt_eq, line]; omega
  rw [e_mth', e_var', h3, okO_s, r_bind]
  simp only [kdOf, hs, hasM, if_true, es_cons', varv _ _ _ _ _ _ h4, es_nil', r_bind, mthV, mthL, mthL1]
  rw [if_pos hb, r_val, sput_0]
/-- one member -/
theorem ub_head (n q : Nat) (X : Str) (A : List Nat) (x : D) (g : List Nat) (B : List Nat) (w : Int) (a4 a5 : Option D) (ms : List D) (b : S) (hX : X = ofChars (A ++ (g ++ B))) (hms : ms.length ≤ 5000) (hl : (A ++ (g ++ B)).length ≤ 2000000)
    (hx : callF P (ev P (n + 17) q) 3 [.str X, .int ((A.length : Nat) : Int), .int w] [.lst ms] = .ok (.tup [x, .int ((A.length + g.length : Nat) : Int)]) [.lst ms]) : (ev P (n + 20) (q + 1)).s (.seq (.asg (.cons (.nm 4) (.cons (.nm 1) .nil)) (.call 3 (.cons (.var 0) (.cons (.var 1) (.cons (.var 2) .nil))))) (.seq (.exp (.mth .append (.var 3) (.cons (.var 4) .nil))) (.seq (.asg (.nm 5) (sl 1)) b))) (Ue X ((A.length : Nat) : Int) w (some (.ref 0)) a4 a5) [.lst ms] = (ev P (n + 17) (q + 1)).s b (Ue X ((A.length + g.length : Nat) : Int) w (some (.ref 0)) (some x) (some (.str (ofChars (B.take 1))))) [.lst (ms ++ [x])] := by
  rw [seq_n (n := n + 19) (env' := Ue X ((A.length + g.length : Nat) : Int) w (some (.ref 0)) (some x) a5) (st' := [.lst ms]) (by
    rw [s_asg', show n + 18 = n + 17 + 1 from rfl, e_call']
    simp only [es_cons', es_nil', varv _ _ 0 (Ue X ((A.length : Nat) : Int) w (some (.ref 0)) a4 a5) _ _ rfl, varv _ _ 1 (Ue X ((A.length : Nat) : Int) w (some (.ref 0)) a4 a5) _ _ rfl, varv _ _ 2 (Ue X ((A.length : Nat) : Int) w (some (.ref 0)) a4 a5) _ _ rfl, r_bind, hx]
    rw [take_cons, take_nm]
    simp only []
    rw [take_cons, take_nm]
    rfl)]
  rw [show n + 19 = n + 14 + 3 + 2 from rfl, expS (appD (n + 14) (q + 1) 3 4 _ ms x rfl rfl hms)]
  have e := slc1 (n + 13) (q + 1) 0 0 (Ue X ((A.length + g.length : Nat) : Int) w (some (.ref 0)) (some x) a5) [.lst (ms ++ [x])] (A ++ g) B 1 (by rw [hX]; simp [Ue]) (by simp [Ue]) (by simpa using hl)
  unfold sl
  rw [show n + 14 + 3 + 1 = n + 13 + 3 + 2 from rfl, asgS e, show n + 13 + 3 + 1 = n + 17 from rfl]
  rw [show Env.put (Ue X ((A.length + g.length : Nat) : Int) w (some (.ref 0)) (some x) a5) 5 (.str (ofChars (B.take 1))) = Ue X ((A.length + g.length : Nat) : Int) w (some (.ref 0)) (some x) (some (.str (ofChars (B.take 1)))) from rfl]
theorem ub_end (n q : Nat) (X : Str) (p w : Int) (a4 : Option D) (ms : List D) (hms : ms.length ≤ 5000) : (ev P (n + 17) q).s (.seq (.ife (.val (.cmp .eq (.var 5) (.cst (.str ⟨#[41]⟩)))) (.seq (.ret (.tup (.cons (.blt .tuple (.cons (.var 3) .nil)) (.cons (.bin .add (.var 1) (.cst (.int 1))) .nil)))) .skip) .skip) (.seq (.ife (.val (.cmp .ne (.var 5) (.cst (.str ⟨#[32]⟩)))) (.seq .nev .skip) .skip) (.seq (.aug 1 .add (.cst (.int 1))) .skip))) (Ue X p w (some (.ref 0)) a4 (some (.str (ofChars [41])))) [.lst ms] = .ok (.rt (.tup [.tup ms, .int (p + 1)])) [.lst ms] := by
  have t := eqv (n + 12) q (.var 5) (Ue X p w (some (.ref 0)) a4 (some (.str (ofChars [41])))) [.lst ms] (ofChars [41]) ⟨#[41]⟩ (varv _ _ _ _ _ _ rfl)
  rw [sEq_1, decide_eq_true rfl] at t
  refine seq_tr (n := n + 14) t (retS (n := n + 13) ?_)
  have a := addv (n + 9) q (.var 1) (.cst (.int 1)) (Ue X p w (some (.ref 0)) a4 (some (.str (ofChars [41])))) [.lst ms] p 1 (varv _ _ _ _ _ _ rfl) (e_cst' _)
  rw [show n + 9 + 1 = n + 10 from rfl] at a
  have hs : rowOf (.ref 0) [O.lst ms] = some ms := rfl
  rw [e_tup', es_cons', e_blt', show asRng (oneE (.cons (.var 3) .nil)) = none from rfl]
  simp only [es_cons', es_nil', varv _ _ 3 (Ue X p w (some (.ref 0)) a4 (some (.str (ofChars [41])))) _ _ rfl, r_bind, bltA, walks, if_true, hs, bltI, a]
  rw [if_pos (small_of (by omega)), r_val, r_bind, a]
  simp only [r_bind]
  rw [if_pos (small_of (by simp))]
theorem ub_go (n q : Nat) (X : Str) (p w : Int) (a4 : Option D) (ms : List D) : (ev P (n + 17) q).s (.seq (.ife (.val (.cmp .eq (.var 5) (.cst (.str ⟨#[41]⟩)))) (.seq (.ret (.tup (.cons (.blt .tuple (.cons (.var 3) .nil)) (.cons (.bin .add (.var 1) (.cst (.int 1))) .nil)))) .skip) .skip) (.seq (.ife (.val (.cmp .ne (.var 5) (.cst (.str ⟨#[32]⟩)))) (.seq .nev .skip) .skip) (.seq (.aug 1 .add (.cst (.int 1))) .skip))) (Ue X p w (some (.ref 0)) a4 (some (.str (ofChars [32])))) [.lst ms] = .ok (.nx (Ue X (p + 1) w (some (.ref 0)) a4 (some (.str (ofChars [32]))))) [.lst ms] := by
  have t := eqv (n + 12) q (.var 5) (Ue X p w (some (.ref 0)) a4 (some (.str (ofChars [32])))) [.lst ms] (ofChars [32]) ⟨#[41]⟩ (varv _ _ _ _ _ _ rfl)
  rw [sEq_1, decide_eq_false (by decide)] at t
  rw [seq_f (n := n + 14) t]
  have t2 : (ev P (n + 14) q).t (.val (.cmp .ne (.var 5) (.cst (.str ⟨#[32]⟩)))) (Ue X p w (some (.ref 0)) a4 (some (.str (ofChars [32])))) [.lst ms] = .ok false [.lst ms] := by
    rw [t_val', e_cmp', varv _ _ 5 _ _ (.str (ofChars [32])) rfl, r_bind, e_cst', r_bind, ne_ss, sEq_1]
    rfl
  rw [show n + 14 + 2 = n + 13 + 3 from rfl, seq_f (n := n + 13) t2, s_seq', s_aug', show Env.get (Ue X p w (some (.ref 0)) a4 (some (.str (ofChars [32])))) 1 = some (.int p) from rfl]
  simp only [e_cst', r_bind, iop, r_val, s_skip']
  rfl
/-- the members, one by one -/
theorem uloop (n q : Nat) (suf : List Nat) (g : D → List Nat) (w : Int) : ∀ (m : Nat) (x : D) (xs : List D) (A : List Nat) (ms : List D) (a4 a5 : Option D), xs.length < m → (A ++ (jn ((x :: xs).map g) ++ 41 :: suf)).length ≤ 2000000 → ms.length + xs.length ≤ 4000 →
    (∀ y ∈ x :: xs, ∀ A' suf' st, Behind suf' → (A' ++ (g y ++ suf')).length ≤ 2000000 → callF P (ev P (n + 17) q) 3 [.str (ofChars (A' ++ (g y ++ suf'))), .int ((A'.length : Nat) : Int), .int w] st = .ok (.tup [y, .int ((A'.length + (g y).length : Nat) : Int)]) st) →
    whGo (ev P (n + 20) (q + 1)) (.val (.cst (.bl true))) UB m (Ue (ofChars (A ++ (jn ((x :: xs).map g) ++ 41 :: suf))) ((A.length : Nat) : Int) w (some (.ref 0)) a4 a5) [.lst ms] = .ok (.rt (.tup [.tup (ms ++ x :: xs), .int ((A.length + (jn ((x :: xs).map g)).length + 1 : Nat) : Int)])) [.lst (ms ++ x :: xs)]
  | 0, x, xs, A, ms, a4, a5, hm, _, _, _ => absurd hm (by omega)
  | m + 1, x, xs, A, ms, a4, a5, hm, hl, hms, hx => by
    have t : ∀ env st, (ev P (n + 20) (q + 1)).t (.val (.cst (.bl true))) env st = .ok true st := fun env st => by
      rw [t_val', e_cst', r_bind]
      rfl
    cases xs with
    | nil =>
      rw [show jn ([x].map g) = g x from rfl] at hl ⊢
      have h1 := hx x (by simp) A (41 :: suf) [.lst ms] (fun c r e => by cases e; decide) hl
      have e := ub_head n q _ A x (g x) (41 :: suf) w a4 a5 ms (.seq (.ife (.val (.cmp .eq (.var 5) (.cst (.str ⟨#[41]⟩)))) (.seq (.ret (.tup (.cons (.blt .tuple (.cons (.var 3) .nil)) (.cons (.bin .add (.var 1) (.cst (.int 1))) .nil)))) .skip) .skip) (.seq (.ife (.val (.cmp .ne (.var 5) (.cst (.str ⟨#[32]⟩)))) (.seq .nev .skip) .skip) (.seq (.aug 1 .add (.cst (.int 1))) .skip))) rfl (by omega) hl h1
      rw [show List.take 1 (41 :: suf) = [41] from rfl, ub_end n (q + 1) _ _ w _ (ms ++ [x]) (by simp at hms ⊢; omega)] at e
      rw [whGo_s, t, r_bind, if_pos rfl]
      unfold UB
      rw [e, r_bind]
      rfl
    | cons y ys =>
      have eJ : jn ((x :: y :: ys).map g) = g x ++ 32 :: jn ((y :: ys).map g) := rfl
      rw [eJ] at hl ⊢
      have eT : A ++ (g x ++ 32 :: jn ((y :: ys).map g) ++ 41 :: suf) = A ++ (g x ++ 32 :: (jn ((y :: ys).map g) ++ 41 :: suf)) := by simp
      rw [eT] at hl ⊢
      have h1 := hx x (by simp) A (32 :: (jn ((y :: ys).map g) ++ 41 :: suf)) [.lst ms] (fun c r e => by cases e; decide) hl
      have e := ub_head n q _ A x (g x) (32 :: (jn ((y :: ys).map g) ++ 41 :: suf)) w a4 a5 ms (.seq (.ife (.val (.cmp .eq (.var 5) (.cst (.str ⟨#[41]⟩)))) (.seq (.ret (.tup (.cons (.blt .tuple (.cons (.var 3) .nil)) (.cons (.bin .add (.var 1) (.cst (.int 1))) .nil)))) .skip) .skip) (.seq (.ife (.val (.cmp .ne (.var 5) (.cst (.str ⟨#[32]⟩)))) (.seq .nev .skip) .skip) (.seq (.aug 1 .add (.cst (.int 1))) .skip))) rfl (by omega) hl h1
      rw [show List.take 1 (32 :: (jn ((y :: ys).map g) ++ 41 :: suf)) = [32] from rfl, ub_go n (q + 1)] at e
      have eV : A ++ (g x ++ 32 :: (jn ((y :: ys).map g) ++ 41 :: suf)) = (A ++ (g x ++ [32])) ++ (jn ((y :: ys).map g) ++ 41 :: suf) := by simp
      have ih := uloop n q suf g w m y ys (A ++ (g x ++ [32])) (ms ++ [x]) (some x) (some (.str (ofChars [32]))) (by simp at hm; omega) (by rw [← eV]; exact hl) (by simp at hms ⊢; omega) (fun z hz => hx z (by simp [List.mem_cons.mp hz]))
      rw [← eV] at ih
      have eL : (((A ++ (g x ++ [32])).length : Nat) : Int) = ((A.length + (g x).length : Nat) : Int) + 1 := by simp; omega
      rw [eL] at ih
      rw [whGo_s, t, r_bind, if_pos rfl]
      unfold UB at ih ⊢
      rw [e, r_bind]
      simp only []
      rw [ih]
      have e1 : ms ++ [x] ++ y :: ys = ms ++ x :: y :: ys := by simp
      have e2 : (A ++ (g x ++ [32])).length + (jn ((y :: ys).map g)).length + 1 = A.length + (g x ++ 32 :: jn ((y :: ys).map g)).length + 1 := by simp; omega
      rw [e1, e2]
end Lw
end

section
set_option autoImplicit false
set_option Elab.async false
set_option linter.all false
set_option maxRecDepth 100000
namespace Lw
open Ev
open PySem (Str)
theorem head_leaf {d : D} (h : Leaf d) : ∃ c r, leafT d = c :: r ∧ c ≠ 41 := by
  cases d with
  | tup xs => exact h.elim
  | ref l => exact h.elim
  | fn l => exact h.elim
  | rol l => exact h.elim
  | non => exact ⟨78, [], rfl, by decide⟩
  | bl b => cases b <;> exact ⟨_, [], rfl, by decide⟩
  | str s => exact ⟨34, _, rfl, by decide⟩
  | int i =>
    obtain ⟨s, m, e, hs, _⟩ := int_txt i h
    obtain ⟨c, r, ed, hd, _⟩ := num_head m
    rw [show leafT (.int i) = s ++ TL.numL m from e, ed]
    rcases hs with ⟨rfl, _⟩ | ⟨rfl, _⟩
    · exact ⟨c, r, rfl, dg_ne hd 41 (by omega)⟩
    · exact ⟨45, c :: r, rfl, by decide⟩
theorem head_txt {k : Nat} {d : D} (h : Vk k d) : ∃ c r, txt k d = c :: r ∧ c ≠ 41 := by
  cases k with
  | zero => exact head_leaf h
  | succ k =>
    rcases h with h | ⟨xs, rfl, _, _⟩
    · rw [txt_leaf h]; exact head_leaf h
    · exact ⟨40, _, rfl, by decide⟩
theorem tu (n q : Nat) (suf : List Nat) (g : D → List Nat) (w : Int) (xs : List D) (A : List Nat) (h3 : xs.length ≤ 30) (hl : (A ++ (jn (xs.map g) ++ 41 :: suf)).length ≤ 2000000)
    (hg : ∀ y ∈ xs, ∃ c r, g y = c :: r ∧ c ≠ 41) (hlow : D.lowL 0 xs = true)
    (hx : ∀ y ∈ xs, ∀ A' suf' st, Behind suf' → (A' ++ (g y ++ suf')).length ≤ 2000000 → callF P (ev P (n + 33) q) 3 [.str (ofChars (A' ++ (g y ++ suf'))), .int ((A'.length : Nat) : Int), .int w] st = .ok (.tup [y, .int ((A'.length + (g y).length : Nat) : Int)]) st) (st : Sto) :
    callF P (ev P (n + 40) (q + 1)) 6 [.str (ofChars (A ++ (jn (xs.map g) ++ 41 :: suf))), .int ((A.length : Nat) : Int), .int w] st = .ok (.tup [.tup xs, .int ((A.length + (jn (xs.map g)).length + 1 : Nat) : Int)]) st := by
  have hr : D.low 0 (.tup [.tup xs, .int ((A.length + (jn (xs.map g)).length + 1 : Nat) : Int)]) = true := by simp [D.low, D.lowL, hlow]
  cases xs with
  | nil =>
    refine call_low (fn := f_tuple_at) (st' := []) rfl rfl rfl ?_ hr
    rw [show jn (([] : List D).map g) = [] from rfl, List.nil_append] at hl ⊢
    show (ev P (n + 37 + 3) (q + 1)).s b_tuple_at (Ue (ofChars (A ++ 41 :: suf)) ((A.length : Nat) : Int) w none none none) [] = _
    rw [tu_eq]
    have t := eqv (n + 35) (q + 1) (sl 1) (Ue (ofChars (A ++ 41 :: suf)) ((A.length : Nat) : Int) w none none none) [] (ofChars [41]) ⟨#[41]⟩ (slc1 (n + 33) (q + 1) 0 0 _ _ A (41 :: suf) 1 rfl rfl hl)
    rw [sEq_1, decide_eq_true rfl] at t
    refine seq_tr (n := n + 37) t (retS (n := n + 36) ?_)
    have a := addv (n + 32) (q + 1) (.var 1) (.cst (.int 1)) (Ue (ofChars (A ++ 41 :: suf)) ((A.length : Nat) : Int) w none none none) [] ((A.length : Nat) : Int) 1 (varv _ _ _ _ _ _ rfl) (e_cst' _)
    rw [show n + 32 + 1 = n + 33 from rfl] at a
    rw [e_tup', es_cons', e_tup', es_nil', r_bind, if_pos (small_of (by simp)), r_bind, es_cons', a, r_bind]
    simp only [es_nil', r_bind]
    rw [if_pos (small_of (by simp))]
    rfl
  | cons x xs =>
    obtain ⟨c, r, ec, hc⟩ := hg x (by simp)
    obtain ⟨r', eJ⟩ : ∃ r', jn ((x :: xs).map g) ++ 41 :: suf = c :: r' := by
      cases xs with
      | nil => exact ⟨r ++ 41 :: suf, by rw [show jn ([x].map g) = g x from rfl, ec]; rfl⟩
      | cons y ys => exact ⟨r ++ 32 :: (jn ((y :: ys).map g) ++ 41 :: suf), by rw [show jn ((x :: y :: ys).map g) = g x ++ 32 :: jn ((y :: ys).map g) from rfl, ec]; simp⟩
    have ul := uloop (n + 16) q suf g w (n + 36) x xs A [] none none (by simp at h3; omega) hl (by simp at h3 ⊢; omega) hx
    refine call_low (fn := f_tuple_at) (st' := [.lst (x :: xs)]) rfl rfl rfl ?_ hr
    generalize hX : ofChars (A ++ (jn ((x :: xs).map g) ++ 41 :: suf)) = X at ul ⊢
    show (ev P (n + 37 + 3) (q + 1)).s b_tuple_at (Ue X ((A.length : Nat) : Int) w none none none) [] = _
    rw [tu_eq]
    have t := eqv (n + 35) (q + 1) (sl 1) (Ue X ((A.length : Nat) : Int) w none none none) [] (ofChars [c]) ⟨#[41]⟩ (by
      have e := slc1 (n + 33) (q + 1) 0 0 (Ue X ((A.length : Nat) : Int) w none none none) [] A (jn ((x :: xs).map g) ++ 41 :: suf) 1 (by rw [← hX]; rfl) rfl hl
      rw [show List.take 1 (jn ((x :: xs).map g) ++ 41 :: suf) = [c] by rw [eJ]; rfl] at e
      exact e)
    rw [sEq_1, decide_eq_false hc] at t
    rw [seq_f (n := n + 37) t, show n + 37 + 2 = n + 37 + 2 from rfl]
    rw [asgS (n := n + 37) (d := .ref 0) (st' := [.lst []]) (by simp [small, line, Nat.ble_eq, new])]
    rw [show Env.put (Ue X ((A.length : Nat) : Int) w none none none) 3 (.ref 0) = Ue X ((A.length : Nat) : Int) w (some (.ref 0)) none none from rfl]
    refine seq_r (n := n + 37) ?_
    rw [show n + 37 = n + 36 + 1 from rfl, s_whl', show n + 36 = n + 16 + 20 from rfl]
    rw [show n + 36 = n + 16 + 20 from rfl] at ul
    exact ul
theorem rd : ∀ (k n q : Nat) (d : D) (pre suf : List Nat) (w : Nat) (st : Sto), Vk k d → Behind suf → w + k ≤ 40 → (pre ++ (txt k d ++ suf)).length ≤ 2000000 → callF P (ev P (n + 20 * k + 1100) (q + 2 * k + 1)) 3 [.str (ofChars (pre ++ (txt k d ++ suf))), .int ((pre.length : Nat) : Int), .int (w : Int)] st = .ok (.tup [d, .int ((pre.length + (txt k d).length : Nat) : Int)]) st
  | 0, n, q, d, pre, suf, w, st, h, hs, hw, hl => rd_leaf n q d h pre suf w hs hl st
  | k + 1, n, q, d, pre, suf, w, st, h, hs, hw, hl => by
    rcases h with h | ⟨xs, rfl, h3, h⟩
    · rw [txt_leaf h] at hl ⊢
      exact rd_leaf (n + 20 * (k + 1)) (q + 2 * (k + 1)) d h pre suf w hs hl st
    · have ih := fun y hy A' suf' st hb hl' => rd k (n + 2) q y A' suf' (w + 1) st (h y hy) hb (by omega) hl'
      have eT : pre ++ (txt (k + 1) (.tup xs) ++ suf) = (pre ++ [40]) ++ (jn (xs.map (txt k)) ++ 41 :: suf) := by simp [txt]
      have eU : (pre ++ [40]) ++ (jn (xs.map (txt k)) ++ 41 :: suf) = pre ++ 40 :: (jn (xs.map (txt k)) ++ 41 :: suf) := by simp
      have eL : pre.length + (txt (k + 1) (.tup xs)).length = (pre ++ [40]).length + (jn (xs.map (txt k))).length + 1 := by simp [txt]; omega
      rw [eT] at hl ⊢
      rw [eL]
      generalize hM : n + 20 * k = M at *
      rw [show n + 2 + 20 * k + 1100 = M + 1069 + 33 by omega] at ih
      have tl := tu (M + 1069) (q + 2 * k + 1) suf (txt k) ((w + 1 : Nat) : Int) xs (pre ++ [40]) (by omega) hl (fun y hy => head_txt (h y hy)) (v_lowL h) ih []
      have hr : D.low 0 (.tup [.tup xs, .int (((pre ++ [40]).length + (jn (xs.map (txt k))).length + 1 : Nat) : Int)]) = true := by simp [D.low, D.lowL, v_lowL h]
      generalize (pre ++ [40]).length + (jn (xs.map (txt k))).length + 1 = Z at tl hr ⊢
      have hz : (((pre ++ [40] : List Nat).length : Nat) : Int) = (pre.length : Int) + 1 := by simp
      rw [hz, show ((w + 1 : Nat) : Int) = (w : Int) + 1 from rfl] at tl
      rw [eU] at hl tl ⊢
      rw [show n + 20 * (k + 1) + 1100 = M + 1110 + 10 by omega, show q + 2 * (k + 1) + 1 = (q + 2 * k + 1 + 1) + 1 by omega]
      generalize q + 2 * k + 1 + 1 = Q at tl ⊢
      refine call_low (fn := f_value_at) (st' := []) rfl rfl rfl ?_ hr
      show (ev P (M + 1110 + 10) (Q + 1)).s b_value_at (Env.new 4 _) [] = _
      rw [va_sign (M + 1110) (Q + 1) pre 40 _ w hl [], show M + 1110 + 9 = M + 1113 + 6 from rfl, v1_f (M + 1113) (Q + 1) _ _ w 40 78 _ _ _ (by decide), show M + 1113 + 5 = M + 1112 + 6 from rfl, v1_f (M + 1112) (Q + 1) _ _ w 40 84 _ _ _ (by decide),
        show M + 1112 + 5 = M + 1111 + 6 from rfl, v1_f (M + 1111) (Q + 1) _ _ w 40 70 _ _ _ (by decide), show M + 1111 + 5 = M + 1110 + 6 from rfl, v1_f (M + 1110) (Q + 1) _ _ w 40 34 _ _ _ (by decide), show M + 1110 + 5 = M + 1109 + 6 from rfl]
      refine v1_t (M + 1109) (Q + 1) _ _ w 40 _ _ _ _ _ ?_
      generalize hX : ofChars (pre ++ 40 :: (jn (xs.map (txt k)) ++ 41 :: suf)) = X at *
      unfold V6
      have t : (ev P (M + 1111) (Q + 1)).t (.val (.cmp .eq (.var 2) (.glb "MOST_BRACKETS" (.int 40)))) (Ve X ((pre.length : Nat) : Int) w (some (.str (ofChars [40])))) [] = .ok false [] := by
        rw [t_val', e_cmp', varv _ _ 2 _ _ (.int (w : Int)) rfl, r_bind, e_glb', r_bind, eqi, show ((w : Int) == 40) = false by simp; omega]
        rfl
      rw [show M + 1109 + 4 = M + 1110 + 3 from rfl, seq_f (n := M + 1110) t]
      refine retS (n := M + 1110) ?_
      have a1 : (ev P (M + 1108) (Q + 1)).e (.bin .add (.var 1) (.cst (.int 1))) (Ve X ((pre.length : Nat) : Int) w (some (.str (ofChars [40])))) [] = .ok (.int ((pre.length : Nat) + 1 : Int)) [] := addv (M + 1107) (Q + 1) (.var 1) (.cst (.int 1)) _ _ ((pre.length : Nat) : Int) 1 (varv _ _ _ _ _ _ rfl) (e_cst' _)
      have a2 : (ev P (M + 1107) (Q + 1)).e (.bin .add (.var 2) (.cst (.int 1))) (Ve X ((pre.length : Nat) : Int) w (some (.str (ofChars [40])))) [] = .ok (.int ((w : Int) + 1)) [] := addv (M + 1106) (Q + 1) (.var 2) (.cst (.int 1)) _ _ (w : Int) 1 (varv _ _ _ _ _ _ rfl) (e_cst' _)
      have a1' : (ev P (M + 1107) (Q + 1)).e (.bin .add (.var 1) (.cst (.int 1))) (Ve X ((pre.length : Nat) : Int) w (some (.str (ofChars [40])))) [] = .ok (.int ((pre.length : Nat) + 1 : Int)) [] := addv (M + 1106) (Q + 1) (.var 1) (.cst (.int 1)) _ _ ((pre.length : Nat) : Int) 1 (varv _ _ _ _ _ _ rfl) (e_cst' _)
      have a2' : (ev P (M + 1106) (Q + 1)).e (.bin .add (.var 2) (.cst (.int 1))) (Ve X ((pre.length : Nat) : Int) w (some (.str (ofChars [40])))) [] = .ok (.int ((w : Int) + 1)) [] := addv (M + 1105) (Q + 1) (.var 2) (.cst (.int 1)) _ _ (w : Int) 1 (varv _ _ _ _ _ _ rfl) (e_cst' _)
      rw [show M + 1110 = M + 1109 + 1 from rfl, e_call']
      simp only [es_cons', es_nil', varv _ _ 0 (Ve X ((pre.length : Nat) : Int) w (some (.str (ofChars [40])))) [] _ rfl, a1, a2, a1', a2', r_bind]
      rw [show M + 1069 + 40 = M + 1109 from rfl] at tl
      exact tl
theorem read_all (k n q : Nat) (d : D) (st : Sto) (h : Vk k d) (hk : k ≤ 40) (hl : (txt k d).length ≤ 1000000) : callF P (ev P (n + 20 * k + 1110) (q + 2 * k + 2)) 2 [.str (ofChars (txt k d))] st = .ok d st := by
  have r := rd k (n + 7) q d [] [] 0 [] h (fun c r e => by cases e) (by omega) (by simp; omega)
  rw [List.nil_append, List.append_nil, List.length_nil, Nat.zero_add] at r
  rw [show n + 7 + 20 * k + 1100 = n + 20 * k + 1107 by omega] at r
  rw [show q + 2 * k + 2 = (q + 2 * k + 1) + 1 from rfl]
  generalize n + 20 * k = M at *
  generalize q + 2 * k + 1 = Q at *
  generalize hX : ofChars (txt k d) = X at *
  refine call_low (fn := f_read_plain) (st' := []) rfl rfl rfl ?_ (v_low h)
  show (ev P (M + 1110) (Q + 1)).s b_read_plain [some (.str X), none, none] [] = _
  unfold b_read_plain
  rw [seq_n (n := M + 1109) (env' := [some (.str X), some d, some (.int (((txt k d).length : Nat) : Int))]) (st' := []) (by
    rw [s_asg', show M + 1108 = M + 1107 + 1 from rfl, e_call']
    simp only [es_cons', es_nil', e_cst', varv _ _ 0 [some (.str X), none, none] [] _ rfl, r_bind]
    rw [show ((0 : Nat) : Int) = 0 from rfl] at r
    rw [r, r_bind, take_cons, take_nm]
    simp only []
    rw [take_cons, take_nm]
    rfl)]
  have t : (ev P (M + 1107) (Q + 1)).t (.val (.cmp .lt (.var 2) (.blt .len (.cons (.var 0) .nil)))) [some (.str X), some d, some (.int (((txt k d).length : Nat) : Int))] [] = .ok false [] := by
    have hln : lenR (.str X) [] = some (txt k d).length := by
      rw [← hX]
      show (if small (ofChars (txt k d)).length = true then some (ofChars (txt k d)).length else none) = _
      rw [oc_len, if_pos (small_of (by omega))]
    rw [t_val', e_cmp', varv _ _ 2 _ _ (.int (((txt k d).length : Nat) : Int)) rfl, r_bind, e_blt', show asRng (oneE (.cons (.var 0) .nil)) = none from rfl]
    simp only [es_cons', es_nil', varv _ _ 0 [some (.str X), some d, some (.int (((txt k d).length : Nat) : Int))] [] (.str X) rfl, r_bind, bltA, walks, bltV, blt1, hln, if_false, Bool.false_eq_true, r_val, cmpop, lt_ii, ofB_s, truth, okO_s]
    rw [decide_eq_false (by omega)]
  rw [show M + 1109 = M + 1106 + 3 from rfl, seq_f (n := M + 1106) t]
  exact retS (n := M + 1106) (varv _ _ _ _ _ _ rfl)
end Lw
end

section
set_option autoImplicit false
set_option Elab.async false
set_option linter.all false
set_option maxRecDepth 100000
namespace Lw
open Ev
open PySem (Str)
def lev : Nat := 229
def fuel : Nat := 100000
/-! how long the texts are -/
theorem leaf_len {d : D} (h : Leaf d) : (leafT d).length ≤ 70 := by
  cases d with
  | tup xs => exact h.elim
  | ref l => exact h.elim
  | fn l => exact h.elim
  | rol l => exact h.elim
  | non => decide
  | bl b => cases b <;> decide
  | str s =>
    have h : s.length ≤ 8 := h
    have := (quo_len s.cps.toList (by simpa [Str.length] using h)).2.2
    simp [leafT]; omega
  | int i =>
    obtain ⟨s, m, e, hs, h20⟩ := int_txt i h
    rw [show leafT (.int i) = s ++ TL.numL m from e, List.length_append]
    rcases hs with ⟨rfl, _⟩ | ⟨rfl, _⟩
    · rw [List.length_nil]; omega
    · rw [List.length_cons, List.length_nil]; omega
theorem jn_len (m : Nat) : ∀ ls : List (List Nat), (∀ l ∈ ls, l.length ≤ m) → (jn ls).length ≤ ls.length * (m + 1)
  | [], _ => by simp [jn]
  | [a], h => by
    have := h a (by simp)
    simp [jn]; omega
  | a :: b :: r, h => by
    have h1 := h a (by simp)
    have h2 := jn_len m (b :: r) fun l hl => h l (by simp [List.mem_cons.mp hl])
    rw [show jn (a :: b :: r) = a ++ 32 :: jn (b :: r) from rfl, List.length_append, List.length_cons, List.length_cons, Nat.succ_mul]
    omega
theorem txt_len : ∀ (k : Nat) (d : D), Vk k d → (txt k d).length ≤ 70 * 4 ^ k
  | 0, d, h => leaf_len h
  | k + 1, d, h => by
    have hp : 1 ≤ 4 ^ k := Nat.one_le_pow _ _ (by decide)
    rcases h with h | ⟨xs, rfl, h3, h⟩
    · rw [txt_leaf h]
      have := leaf_len h
      rw [Nat.pow_succ]
      omega
    · have ih := jn_len (70 * 4 ^ k) (xs.map (txt k)) fun l hl => by
        obtain ⟨x, hx, rfl⟩ := List.mem_map.mp hl
        exact txt_len k x (h x hx)
      rw [List.length_map] at ih
      have h4 : xs.length * (70 * 4 ^ k + 1) ≤ 3 * (70 * 4 ^ k + 1) := Nat.mul_le_mul_right _ h3
      rw [show txt (k + 1) (.tup xs) = 40 :: (jn (xs.map (txt k)) ++ [41]) from rfl, List.length_cons, List.length_append, List.length_singleton, Nat.pow_succ]
      omega
/-! the law -/
def Le (ns : List Int) (a2 a3 a4 a5 : Option D) : Env := [some (.rol ns), some (.ref 1), a2, a3, a4, a5]
def WBd : S := .seq (.asg (.nm 3) (.tup (.cons (.var 3) .nil))) .skip
theorem wrap1 {k : Nat} {v : D} (h : Vk k v) : Vk (k + 1) (.tup [v]) ∧ (txt (k + 1) (.tup [v])).length = (txt k v).length + 2 := by
  refine ⟨.inr ⟨[v], rfl, by simp, fun x hx => by rw [List.mem_singleton.mp hx]; exact h⟩, ?_⟩
  rw [show txt (k + 1) (.tup [v]) = 40 :: (txt k v ++ [41]) from rfl, List.length_cons, List.length_append, List.length_singleton]
theorem wraps (n q : Nat) (ns : List Int) (a2 a5 : Option D) (st : Sto) : ∀ (m : Nat) (s : Int) (k : Nat) (v : D) (a4 : Option D), Vk k v → ∃ v' a4', Vk (k + m) v' ∧ (txt (k + m) v').length = (txt k v).length + 2 * m ∧ frGo (ev P (n + 10) q) (.nm 4) WBd [] (intsFrom s m) (Le ns a2 (some v) a4 a5) st = .ok (.nx (Le ns a2 (some v') a4' a5)) st
  | 0, s, k, v, a4, h => ⟨v, a4, h, rfl, rfl⟩
  | m + 1, s, k, v, a4, h => by
    obtain ⟨h1, h2⟩ := wrap1 h
    obtain ⟨v', a4', h3, h4, e⟩ := wraps n q ns a2 a5 st m (s + 1) (k + 1) (.tup [v]) (some (.int s)) h1
    rw [show k + 1 + m = k + (m + 1) by omega] at h3 h4
    refine ⟨v', a4', h3, by omega, ?_⟩
    have eb : (ev P (n + 10) q).s WBd (Le ns a2 (some v) (some (.int s)) a5) st = .ok (.nx (Le ns a2 (some (.tup [v])) (some (.int s)) a5)) st := by
      unfold WBd
      rw [asgN (n := n + 8) (d := .tup [v]) (st' := st) (by
        rw [e_tup', es_cons', varv _ _ 3 _ _ v rfl, r_bind, es_nil', r_bind, r_bind, if_pos (small_of (by simp))])]
      rfl
    rw [intsFrom, frGo_c, take_nm]
    simp only []
    rw [show Env.put (Le ns a2 (some v) a4 a5) 4 (.int s) = Le ns a2 (some v) (some (.int s)) a5 from rfl, eb, r_bind]
    exact e
/-- a draw, the box standing in slot 1 -/
theorem drawL (n c many : Nat) (ds : List Int) (j : Nat) (J : Sto) (env : Env) (hm : 0 < many) (hJ : Jk J) (h1 : env.get 1 = some (.ref 1)) : ∃ r : Nat, r < many ∧ (ev P (n + 24) (c + 1)).e (.call 9 (.cons (.var 1) (.cons (.cst (.int many)) .nil))) env (Bx ds j J) = .ok (.int r) (Bx ds (j + 1) J) := by
  obtain ⟨r, hr, e⟩ := draw (n + 3) c many ds j J hm hJ
  refine ⟨r, hr, ?_⟩
  rw [e_call']
  simp only [es_cons', es_nil', e_cst', varv _ _ _ _ _ _ h1, r_bind]
  exact e
theorem times (n c : Nat) (ds : List Int) (j : Nat) (J : Sto) (env : Env) (hJ : Jk J) (h1 : env.get 1 = some (.ref 1)) : ∃ m : Nat, m ≤ 36 ∧ (ev P (n + 30) (c + 1)).e (.idx (.lst (.cons (.cst (.int 0)) (.cons (.cst (.int 0)) (.cons (.cst (.int 0)) (.cons (.cst (.int 36)) .nil))))) (.call 9 (.cons (.var 1) (.cons (.cst (.int 4)) .nil)))) env (Bx ds j J) = .ok (.int (m : Int)) (Bx ds (j + 1) (J ++ [.lst [.int 0, .int 0, .int 0, .int 36]])) := by
  have hJ' : Jk (J ++ [.lst [.int 0, .int 0, .int 0, .int 36]]) := jk_app hJ rfl
  obtain ⟨r, hr, e⟩ := drawL (n + 5) c 4 ds j _ env (by decide) hJ' h1
  have e : (ev P (n + 29) (c + 1)).e (.call 9 (.cons (.var 1) (.cons (.cst (.int 4)) .nil))) env (Bx ds j (J ++ [.lst [.int 0, .int 0, .int 0, .int 36]])) = .ok (.int r) (Bx ds (j + 1) (J ++ [.lst [.int 0, .int 0, .int 0, .int 36]])) := e
  have a : (ev P (n + 29) (c + 1)).e (.lst (.cons (.cst (.int 0)) (.cons (.cst (.int 0)) (.cons (.cst (.int 0)) (.cons (.cst (.int 36)) .nil))))) env (Bx ds j J) = .ok (.ref (J.length + 2)) (Bx ds j (J ++ [.lst [.int 0, .int 0, .int 0, .int 36]])) := by
    simp [small, line, Nat.ble_eq, new]
    exact ⟨rfl, rfl⟩
  have key : ∃ m : Nat, m ≤ 36 ∧ item (.ref (J.length + 2)) (.int r) (Bx ds (j + 1) (J ++ [.lst [.int 0, .int 0, .int 0, .int 36]])) = .ok (.int (m : Int)) (Bx ds (j + 1) (J ++ [.lst [.int 0, .int 0, .int 0, .int 36]])) := by
    simp only [item, sgetR, bx_get]
    match r, hr with
    | 0, _ => exact ⟨0, by decide, rfl⟩
    | 1, _ => exact ⟨0, by decide, rfl⟩
    | 2, _ => exact ⟨0, by decide, rfl⟩
    | 3, _ => exact ⟨36, by decide, rfl⟩
  obtain ⟨m, hm, ei⟩ := key
  refine ⟨m, hm, ?_⟩
  rw [e_idx', a]
  simp only [r_bind]
  rw [e]
  simp only [r_bind]
  rw [ei, r_val]
def Lt : E := .or (.not (.val (.call 10 (.cons (.call 0 (.cons (.var 3) .nil)) (.cons (.var 5) .nil))))) (.not (.val (.call 10 (.cons (.call 2 (.cons (.var 5) .nil)) (.cons (.var 3) .nil)))))
def LB : S := (.seq (.asg (.nm 3) (.call 12 (.cons (.var 1) (.cons (.cst (.int 4)) .nil)))) (.seq (.fr (.nm 4) (.blt .range (.cons (.idx (.lst (.cons (.cst (.int 0)) (.cons (.cst (.int 0)) (.cons (.cst (.int 0)) (.cons (.cst (.int 36)) .nil))))) (.call 9 (.cons (.var 1) (.cons (.cst (.int 4)) .nil)))) .nil)) WBd) (.seq (.asg (.nm 5) (.call 11 (.cons (.var 3) .nil))) (.seq (.ife Lt (.seq (.ret (.cst (.bl false))) .skip) .skip) .skip))))
theorem lw_eq : b_law = .seq (.asg (.nm 1) (.lst (.cons (.call 8 (.cons (.var 0) (.cons (.cst (.int 0)) (.cons (.cst (.int 63)) .nil)))) (.cons (.cst (.int 0)) .nil)))) (.seq (.fr (.nm 2) (.blt .range (.cons (.cst (.int 6)) .nil)) LB) (.seq (.ret (.cst (.bl true))) .skip)) := rfl
/-- the test of a turn: both texts, both values are the same -/
theorem lt_ok (n c : Nat) (ns : List Int) (a2 a4 : Option D) (k : Nat) (v : D) (st : Sto) (h : Vk k v) (hk : k ≤ 40) (hl : (txt k v).length ≤ 1000000) : (ev P (n + 3010) (c + 101)).t Lt (Le ns a2 (some v) a4 (some (.str (ofChars (txt k v))))) st = .ok false st := by
  have e1 : callF P (ev P (n + 3004) (c + 100)) 0 [v] st = .ok (.str (ofChars (txt k v))) st := by
    have := show_all k (n + 2964 - 20 * k) (c + 98 - k) v st h hl
    rw [show n + 2964 - 20 * k + 20 * k + 40 = n + 3004 by omega, show c + 98 - k + k + 2 = c + 100 by omega] at this
    exact this
  have e2 : callF P (ev P (n + 3006) (c + 100)) 10 [.str (ofChars (txt k v)), .str (ofChars (txt k v))] st = .ok (.bl true) st := same_leaf (n + 2966) (c + 100) _ (.inr ⟨_, rfl⟩) st
  have e3 : callF P (ev P (n + 3004) (c + 100)) 2 [.str (ofChars (txt k v))] st = .ok v st := by
    have := read_all k (n + 1894 - 20 * k) (c + 98 - 2 * k) v st h hk hl
    rw [show n + 1894 - 20 * k + 20 * k + 1110 = n + 3004 by omega, show c + 98 - 2 * k + 2 * k + 2 = c + 100 by omega] at this
    exact this
  have e4 : callF P (ev P (n + 3006) (c + 100)) 10 [v, v] st = .ok (.bl true) st := by
    have := same_all k (n + 2966 - 20 * k) (c + 99 - k) v st h
    rw [show n + 2966 - 20 * k + 20 * k + 40 = n + 3006 by omega, show c + 99 - k + k + 1 = c + 100 by omega] at this
    exact this
  have v3 : ∀ m, (ev P (m + 1) (c + 101)).e (.var 3) (Le ns a2 (some v) a4 (some (.str (ofChars (txt k v))))) st = .ok v st := fun m => varv _ _ _ _ _ _ rfl
  have v5 : ∀ m, (ev P (m + 1) (c + 101)).e (.var 5) (Le ns a2 (some v) a4 (some (.str (ofChars (txt k v))))) st = .ok (.str (ofChars (txt k v))) st := fun m => varv _ _ _ _ _ _ rfl
  generalize Le ns a2 (some v) a4 (some (.str (ofChars (txt k v)))) = env at *
  have g1 : (ev P (n + 3005) (c + 101)).e (.call 0 (.cons (.var 3) .nil)) env st = .ok (.str (ofChars (txt k v))) st := by
    rw [show n + 3005 = n + 3004 + 1 from rfl, show c + 101 = c + 100 + 1 from rfl, e_call', es_cons', show c + 100 + 1 = c + 101 from rfl, v3, r_bind, es_nil', r_bind, r_bind]
    exact e1
  have g2 : (ev P (n + 3005) (c + 101)).e (.call 2 (.cons (.var 5) .nil)) env st = .ok v st := by
    rw [show n + 3005 = n + 3004 + 1 from rfl, show c + 101 = c + 100 + 1 from rfl, e_call', es_cons', show c + 100 + 1 = c + 101 from rfl, v5, r_bind, es_nil', r_bind, r_bind]
    exact e3
  have f1 : (ev P (n + 3009) (c + 101)).t (.not (.val (.call 10 (.cons (.call 0 (.cons (.var 3) .nil)) (.cons (.var 5) .nil))))) env st = .ok false st := by
    rw [t_not', t_val', show n + 3007 = n + 3006 + 1 from rfl, show c + 101 = c + 100 + 1 from rfl, e_call', es_cons', show c + 100 + 1 = c + 101 from rfl, g1, r_bind, es_cons', v5, r_bind, es_nil', r_bind, r_bind, r_bind, e2]
    rfl
  have f2 : (ev P (n + 3009) (c + 101)).t (.not (.val (.call 10 (.cons (.call 2 (.cons (.var 5) .nil)) (.cons (.var 3) .nil))))) env st = .ok false st := by
    rw [t_not', t_val', show n + 3007 = n + 3006 + 1 from rfl, show c + 101 = c + 100 + 1 from rfl, e_call', es_cons', show c + 100 + 1 = c + 101 from rfl, g2, r_bind, es_cons', v3, r_bind, es_nil', r_bind, r_bind, r_bind, e4]
    rfl
  unfold Lt
  rw [t_or', f1, r_bind, if_neg (by decide), f2]
theorem lb (n c : Nat) (ns : List Int) (ds : List Int) (j : Nat) (J : Sto) (a2 a3 a4 a5 : Option D) (hJ : Jk J) : ∃ (b3 b4 b5 : Option D) (j' : Nat) (J' : Sto), Jk J' ∧ (ev P (n + 3020) (c + 101)).s LB (Le ns a2 a3 a4 a5) (Bx ds j J) = .ok (.nx (Le ns a2 b3 b4 b5)) (Bx ds j' J') := by
  obtain ⟨v, j1, hv, e1⟩ := value_all ds (n + 2921) (c + 95) 4 (by decide) j J hJ
  rw [show n + 2921 + 9 * 4 + 60 = n + 3017 from rfl, show c + 95 + 4 + 1 = c + 100 from rfl] at e1
  unfold LB
  rw [show n + 3020 = n + 3018 + 2 from rfl, asgS (n := n + 3018) (d := v) (st' := Bx ds j1 J) (by
    rw [show n + 3018 = n + 3017 + 1 from rfl, show c + 101 = c + 100 + 1 from rfl, e_call']
    simp only [es_cons', es_nil', e_cst', varv _ _ 1 (Le ns a2 a3 a4 a5) _ (.ref 1) rfl, r_bind]
    exact e1)]
  rw [show Env.put (Le ns a2 a3 a4 a5) 3 v = Le ns a2 (some v) a4 a5 from rfl]
  obtain ⟨m, hm, e2⟩ := times (n + 2986) (c + 100) ds j1 J (Le ns a2 (some v) a4 a5) hJ rfl
  rw [show n + 2986 + 30 = n + 3016 from rfl, show c + 100 + 1 = c + 101 from rfl] at e2
  obtain ⟨v2, a4', hv2, hlen, e3⟩ := wraps (n + 3007) (c + 101) ns a2 a5 (Bx ds (j1 + 1) (J ++ [.lst [.int 0, .int 0, .int 0, .int 36]])) m 0 4 v a4 hv
  rw [show n + 3007 + 10 = n + 3017 from rfl] at e3
  have er : (ev P (n + 3017) (c + 101)).i (.blt .range (.cons (.idx (.lst (.cons (.cst (.int 0)) (.cons (.cst (.int 0)) (.cons (.cst (.int 0)) (.cons (.cst (.int 36)) .nil))))) (.call 9 (.cons (.var 1) (.cons (.cst (.int 4)) .nil)))) .nil)) (Le ns a2 (some v) a4 a5) (Bx ds j1 J) = .ok ⟨intsFrom 0 m, [], false⟩ (Bx ds (j1 + 1) (J ++ [.lst [.int 0, .int 0, .int 0, .int 36]])) := rng1 (n := n + 3016) e2 (by omega)
  rw [show n + 3018 + 1 = n + 3017 + 2 from rfl, frS (n := n + 3017) (I := ⟨intsFrom 0 m, [], false⟩) rfl er e3]
  have hJ2 : Jk (J ++ [.lst [.int 0, .int 0, .int 0, .int 36]]) := jk_app hJ rfl
  generalize J ++ [.lst [.int 0, .int 0, .int 0, .int 36]] = J2 at *
  have hl4 := txt_len 4 v hv
  have hl : (txt (4 + m) v2).length ≤ 1000000 := by
    have : 70 * 4 ^ 4 = 17920 := by decide
    omega
  have e4 : callF P (ev P (n + 3015) (c + 100)) 11 [v2] (Bx ds (j1 + 1) J2) = .ok (.str (ofChars (txt (4 + m) v2))) (Bx ds (j1 + 1) J2) := by
    have := plain_all (4 + m) (n + 2975 - 20 * (4 + m)) (c + 98 - (4 + m)) v2 (Bx ds (j1 + 1) J2) hv2 hl
    rw [show n + 2975 - 20 * (4 + m) + 20 * (4 + m) + 40 = n + 3015 by omega, show c + 98 - (4 + m) + (4 + m) + 2 = c + 100 by omega] at this
    exact this
  rw [show n + 3017 + 1 = n + 3016 + 2 from rfl, asgS (n := n + 3016) (d := .str (ofChars (txt (4 + m) v2))) (st' := Bx ds (j1 + 1) J2) (by
    rw [show n + 3016 = n + 3015 + 1 from rfl, show c + 101 = c + 100 + 1 from rfl, e_call']
    simp only [es_cons', es_nil', varv _ _ 3 (Le ns a2 (some v2) a4' a5) _ v2 rfl, r_bind]
    exact e4)]
  rw [show Env.put (Le ns a2 (some v2) a4' a5) 5 (.str (ofChars (txt (4 + m) v2))) = Le ns a2 (some v2) a4' (some (.str (ofChars (txt (4 + m) v2)))) from rfl]
  have et := lt_ok (n + 5) c ns a2 a4' (4 + m) v2 (Bx ds (j1 + 1) J2) hv2 (by omega) hl
  rw [show n + 5 + 3010 = n + 3014 + 1 from rfl] at et
  refine ⟨some v2, a4', some (.str (ofChars (txt (4 + m) v2))), j1 + 1, J2, hJ2, ?_⟩
  rw [show n + 3016 + 1 = n + 3014 + 3 from rfl, seq_f (n := n + 3014) et, s_skip']
theorem turns (n c : Nat) (ns : List Int) (ds : List Int) : ∀ (m : Nat) (s : Int) (j : Nat) (J : Sto) (a2 a3 a4 a5 : Option D), Jk J → ∃ (b2 b3 b4 b5 : Option D) (j' : Nat) (J' : Sto), frGo (ev P (n + 3020) (c + 101)) (.nm 2) LB [] (intsFrom s m) (Le ns a2 a3 a4 a5) (Bx ds j J) = .ok (.nx (Le ns b2 b3 b4 b5)) (Bx ds j' J')
  | 0, s, j, J, a2, a3, a4, a5, hJ => ⟨a2, a3, a4, a5, j, J, rfl⟩
  | m + 1, s, j, J, a2, a3, a4, a5, hJ => by
    obtain ⟨b3, b4, b5, j1, J1, hJ1, e1⟩ := lb n c ns ds j J (some (.int s)) a3 a4 a5 hJ
    obtain ⟨c2, c3, c4, c5, j2, J2, e2⟩ := turns n c ns ds m (s + 1) j1 J1 (some (.int s)) b3 b4 b5 hJ1
    refine ⟨c2, c3, c4, c5, j2, J2, ?_⟩
    rw [intsFrom, frGo_c, take_nm]
    simp only []
    rw [show Env.put (Le ns a2 a3 a4 a5) 2 (.int s) = Le ns (some (.int s)) a3 a4 a5 from rfl, e1, r_bind]
    exact e2
theorem law_body (n c : Nat) (ns : List Int) : ∃ st', (ev P (n + 3023) (c + 101)).s b_law [some (.rol ns), none, none, none, none, none] [] = .ok (.rt (.bl true)) st' := by
  obtain ⟨ds, e1⟩ := digits (n + 2948) (c + 99) ns
  rw [show n + 2948 + 70 = n + 3018 from rfl, show c + 99 + 1 = c + 100 from rfl] at e1
  obtain ⟨b2, b3, b4, b5, j', J', e2⟩ := turns n c ns ds 6 0 0 [] none none none none (fun o ho => by cases ho)
  refine ⟨Bx ds j' J', ?_⟩
  have hb : Bx ds 0 [] = Ds ds ++ [.lst [.ref 0, .int 0]] := rfl
  rw [lw_eq, show n + 3023 = n + 3021 + 2 from rfl, asgS (n := n + 3021) (d := .ref 1) (st' := Bx ds 0 []) (by
    have ec : (ev P (n + 3019) (c + 101)).e (.call 8 (.cons (.var 0) (.cons (.cst (.int 0)) (.cons (.cst (.int 63)) .nil)))) [some (.rol ns), none, none, none, none, none] [] = .ok (.ref 0) (Ds ds) := by
      rw [show n + 3019 = n + 3018 + 1 from rfl, show c + 101 = c + 100 + 1 from rfl, e_call']
      simp only [es_cons', es_nil', e_cst', varv _ _ 0 [some (.rol ns), none, none, none, none, none] _ (.rol ns) rfl, r_bind]
      exact e1
    rw [e_lst', es_cons', ec, r_bind, es_cons', e_cst', r_bind, es_nil', r_bind, r_bind, r_bind, if_pos (small_of (by simp)), hb]
    rfl)]
  rw [show Env.put [some (.rol ns), none, none, none, none, none] 1 (.ref 1) = Le ns none none none none from rfl]
  have er : (ev P (n + 3020) (c + 101)).i (.blt .range (.cons (.cst (.int 6)) .nil)) (Le ns none none none none) (Bx ds 0 []) = .ok ⟨intsFrom 0 6, [], false⟩ (Bx ds 0 []) := rng1 (n := n + 3019) (m := 6) (e_cst' _) (by decide)
  rw [show n + 3021 + 1 = n + 3020 + 2 from rfl, frS (n := n + 3020) (I := ⟨intsFrom 0 6, [], false⟩) rfl er e2]
  exact retS (n := n + 3019) (e_cst' _)
theorem holds (ns : List Int) (h : ns.length ≤ 63) : ∃ st', callF P (ev P fuel lev) 13 [.rol ns] [] = .ok (.bl true) st' := by
  obtain ⟨st', e⟩ := law_body 96977 128 ns
  have hf : (96977 + 3023 : Nat) = fuel := by decide
  have hv : (128 + 101 : Nat) = lev := by decide
  rw [hf, hv] at e
  generalize fuel = F at *
  generalize lev = L at *
  exact ⟨[], call_low (fn := f_law) (st' := st') rfl rfl rfl e rfl⟩
end Lw
end

section
set_option Elab.async false
set_option linter.all false
set_option maxRecDepth 100000
set_option maxHeartbeats 0
open PySem PySem.W PySem.Calls PyProof.Rows
theorem PySem.Challenge.cw_turnabout_k24_plain_there_and_back_holds : PySem.Challenge.rw_turnabout_k24_plain_there_and_back.Holds := by
  w_on; o_law
  refine HandSHeadRun.head_any (r := OpenLaw.row PySem.Challenge.rw_turnabout_k24_plain_there_and_back) (q := view (OpenLaw.row PySem.Challenge.rw_turnabout_k24_plain_there_and_back).prog [21]) (H := Hd.hk) (ob := Hd.ob) (M := 2000) (loose := Hd.loose) (d := HandSHeadRun.topDef (OpenLaw.row PySem.Challenge.rw_turnabout_k24_plain_there_and_back).prog 21) (kwd := []) Hd.ob_eq
    (by kernel_rfl) (fun s => by kernel_rfl) Hd.run (by kernel_rfl) (by kernel_rfl) (by kernel_rfl) (by rfl) (by first | assumption | decide +kernel) (by decide +kernel) ⟨rfl, rfl, rfl, rfl, rfl, by decide +kernel⟩ ?hw ?hc
  case hw => w_witness2
  case hc =>
    refine L2.walk_ofE (l := PySem.Challenge.rw_turnabout_k24_plain_there_and_back) (n := 63) (k := Lw.lev + 1) (x := "script") (CX := L2.CX0) rfl (by decide) (by kernel_rfl) ⟨rfl, by decide, by decide⟩ ?F (fun _ _ _ _ z => z)
    intro w mg fa h Y G hmg0
    obtain ⟨K, KX, c⟩ := Y
    have hmg : mg ("law" : PySem.Str) = some (.ref fa) := by
      have e : (HandSHeadRun.topDef (OpenLaw.row PySem.Challenge.rw_turnabout_k24_plain_there_and_back).prog 21).name = ("law" : PySem.Str) := by kernel_rfl
      rw [← e]
      exact hmg0
    obtain ⟨fd, F⟩ := c.def_ 13 (d := Hd.d_law) rfl
    have e := hmg.symm.trans (He.glo_ok KX G (c.fact 18 (f := .glo "law") rfl))
    cases e
    have b := L2.FunD.bindsA (ps := ["script"]) F fun _ _ _ _ _ _ us hl => match us, hl with | [_], _ => rfl
    refine ⟨K, fd, Ev.spF K Lw.P (Ev.ev Lw.P Lw.fuel Lw.lev) 13, KX, fun s v => b s [v] rfl, fun H a ns hl hO hS => Ev.sp_law (fn := Lw.f_law) rfl rfl hO hS (Lw.holds ns hl), fun base KB GB => ?_⟩
    exact Ev.fn_law (N := ["script", "box", "turn", "value", "k", "text"]) (Lw.prg (prog := (PySem.Challenge.rw_turnabout_k24_plain_there_and_back).prog) (w := w) c KX G) rfl F Lw.sc_law rfl rfl Lw.ck_law
end
