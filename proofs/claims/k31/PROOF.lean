import PyProof.Rows.All
import Wide.All
import OpenK.AllK
import Wide.FinOn
import HandS.ForMost
import HandS.Zip
import HandS.TupAny
import HandS.TupMul
import HandS.Wide
import HandS.SortInts
import HandS.Deep
import HandS.RevTup
import HandS.Strs
import HandS.Flow
import HandS.Style
import HandS.Walk
import KE.KEqDict
import KE.KDictList
import HandS.Dict
import HandS.Iter
import HandS.Call
import HandS.List
import HandS.IsInst
import HandS.SetFor
import HandS.Conv
import KE.GoesMore
import HandS.Small
import HandS.Defaults
import HandS.Words
import KE.KStateDown
import HandS.Ends
import HandS.Head0
import HandS.Head1
import HandS.Head2
import HandS.HeadEnd
import HandS.HeadHook1
import HandS.HeadHook2
import PySem.Challenge.RW_halvelooks_k31_whole_sums_of_reads_by_we
set_option Elab.async false
set_option linter.all false
set_option maxRecDepth 100000
set_option maxHeartbeats 1000000
set_option Elab.async false
set_option linter.all false
set_option maxRecDepth 100000
/-! The plain machine: values as trees, a small syntax, and what a text of it does. -/
namespace Ev
open PySem

inductive D where
  | non | bl (b : Bool) | int (i : Int) | str (s : Str)
  | tup (ds : List D) | lst (ds : List D) | dct (k : Bool) (kvs : List (D × D)) | ref (l : Nat) | scr (ns : List Int) | kt (ds : List D)

/-- objects that may be changed -/
inductive Ob where
  | lst (ds : List D) | dct (k : Bool) (kvs : List (D × D))
def Ob.toD : Ob → D
  | .lst ds => .lst ds
  | .dct k kvs => .dct k kvs
abbrev Sto := List Ob
/-- what a name holds -/
inductive Sl where
  | un | v (d : D) | own (o : Ob)
abbrev Rho := List Sl
def get : Rho → Nat → Sl
  | [], _ => .un
  | s :: _, 0 => s
  | _ :: r, i + 1 => get r i
def put : Rho → Nat → Sl → Rho
  | [], 0, s => [s]
  | [], i + 1, s => .un :: put [] i s
  | _ :: r, 0, s => s :: r
  | x :: r, i + 1, s => x :: put r i s

inductive Res (α : Type) where
  | ok (a : α) (st : Sto) | bad
def Res.bind {α β : Type} (r : Res α) (f : α → Sto → Res β) : Res β := match r with
  | .ok a st => f a st
  | .bad => .bad
def lift {α : Type} (o : Option α) (st : Sto) : Res α := match o with
  | some a => .ok a st
  | none => .bad

/-! ### operations on values -/
abbrev LIM : Nat := 16777216
def D.sh : Nat → D → Bool
  | 0, .tup _ => false
  | 0, .lst _ => false
  | n + 1, .tup ds => ds.all (D.sh n)
  | n + 1, .lst ds => ds.all (D.sh n)
  | _, .str s => s.cps.all (· < 0x110000)
  | _, .non => true
  | _, .bl _ => true
  | _, .int _ => true
  | _, _ => false
def all2 {α β : Type} (f : α → β → Bool) : List α → List β → Bool
  | [], [] => true
  | x :: xs, y :: ys => f x y && all2 f xs ys
  | _, _ => false
def eqvN : Nat → D → D → Bool
  | 0, _, _ => false
  | _ + 1, .non, .non => true
  | _ + 1, .bl a, .bl b => a == b
  | _ + 1, .bl a, .int j => (if a then 1 else 0) == j
  | _ + 1, .int i, .bl b => i == (if b then 1 else 0)
  | _ + 1, .int i, .int j => i == j
  | _ + 1, .str x, .str y => x == y
  | n + 1, .lst xs, .lst ys => all2 (eqvN n) xs ys
  | n + 1, .tup xs, .tup ys => all2 (eqvN n) xs ys
  | _ + 1, _, _ => false
def isEmptyD : D → Bool
  | .dct _ [] => true
  | _ => false
def eqD (a b : D) : Option Bool := match a, b with
  | .int i, .int j => some (i == j)
  | .str i, .str j => some (i == j)
  | .non, .non => some true
  | .dct false a, .dct false b => if a.isEmpty || b.isEmpty then some (a.isEmpty && b.isEmpty) else none
  | a, b => if a.sh 64 && b.sh 64 then some (eqvN 66 a b) else none
def flatD : D → Bool
  | .non => true
  | .bl _ => true
  | .int _ => true
  | .str _ => true
  | _ => false
/-- keys of dicts: k = true: tuples of ints and texts; false: ints and texts -/
def keyD (k : Bool) : D → Bool
  | .int _ => !k
  | .str _ => !k
  | .tup ds => k && ds.all fun d => match d with | .int _ => true | .str _ => true | _ => false
  | _ => false
def dlook (x : D) : List (D × D) → Option D
  | [] => none
  | (k, v) :: r => if eqvN 62 k x then some v else dlook x r
def dput (x v : D) (kvs : List (D × D)) : List (D × D) :=
  if (kvs.any fun p => eqvN 62 p.1 x) then kvs.map fun p => if eqvN 62 p.1 x then (p.1, v) else p else kvs ++ [(x, v)]

def inD (x b : D) : Option Bool := match b with
  | .dct k kvs => if keyD k x then some (dlook x kvs).isSome else none
  | .lst ys => if x.sh 60 && ys.all (D.sh 60) then some (ys.any fun y => eqvN 62 y x) else none
  | .tup ys => if flatD x && ys.all flatD then some (ys.any fun y => eqvN 62 y x) else none
  | .kt ys => if flatD x && ys.all flatD then some (ys.any fun y => eqvN 62 y x) else none
  | _ => none

/-- a key in a dict that may be changed -/
def inO (o : Ob) (y : D) : Option Bool := match o with
  | .dct kd kvs => if keyD kd y then some (dlook y kvs).isSome else none
  | _ => none
inductive Bop where | add | sub | mul | mod | fdiv | pow
  deriving DecidableEq
def Bop.op : Bop → Operator
  | .add => .Add | .sub => .Sub | .mul => .Mult | .mod => .Mod | .fdiv => .FloorDiv | .pow => .Pow
def small64 (i : Int) : Bool := decide (-(2 ^ 64) < i) && decide (i < 2 ^ 64)
def big (i : Int) : Bool := decide (i.natAbs < 2 ^ 8000)
def binD (op : Bop) (a b : D) : Option D := match op, a, b with
  | .add, .int i, .int j => some (.int (i + j))
  | .add, .str i, .str j => if i.length + j.length ≤ LIM then some (.str (i ++ j)) else none
  | .add, .tup i, .tup j => if i.length + j.length ≤ LIM then some (.tup (i ++ j)) else none
  | .add, .lst i, .lst j => if i.length + j.length ≤ LIM then some (.lst (i ++ j)) else none
  | .sub, .int i, .int j => some (.int (i - j))
  | .mul, .int i, .int j => if small64 i || small64 j || (big i && big j) then some (.int (i * j)) else none
  | .mul, .tup i, .int j => if j = 1 ∨ (2 ≤ j ∧ j ≤ 1000 ∧ i.isEmpty = false ∧ i.length ≤ 1000) then some (.tup (List.replicate j.toNat i).flatten) else none
  | .mul, .lst i, .int j => if -(2 ^ 63) ≤ j ∧ j < 2 ^ 63 ∧ i.length * j.toNat ≤ LIM then some (.lst (List.replicate j.toNat i).flatten) else none
  | .mod, .int i, .int j => if 0 < j then some (.int (i % j)) else none
  | .fdiv, .int i, .int j => if 0 < j ∧ big j = true then some (.int (i / j)) else none
  | .pow, .int i, .int j => if 0 ≤ j ∧ j ≤ 1000000 ∧ i.natAbs < 2 ^ 64 then some (.int (i ^ j.toNat)) else none
  | _, _, _ => none
def lstD : D → Option (List D)
  | .lst ds => some ds
  | _ => none
inductive Cop where | eq | ne | lt | le | gt | ge | isin | notin
  deriving DecidableEq
def Cop.op : Cop → CmpOp
  | .eq => .Eq | .ne => .NotEq | .lt => .Lt | .le => .LtE | .gt => .Gt | .ge => .GtE | .isin => .In | .notin => .NotIn
def elems : D → Option (List D)
  | .lst ds => some ds
  | .tup ds => some ds
  | _ => none
/-- what is walked: a module's tuple too -/
def elemsK : D → Option (List D)
  | .kt ds => some ds
  | d => elems d
def cmpD (op : Cop) (a b : D) : Option Bool := match op with
  | .eq => eqD a b
  | .ne => (eqD a b).map (!·)
  | .lt => match a, b with | .int i, .int j => some (decide (i < j)) | _, _ => none
  | .le => match a, b with | .int i, .int j => some (decide (i ≤ j)) | _, _ => none
  | .gt => match a, b with | .int i, .int j => some (decide (j < i)) | _, _ => none
  | .ge => match a, b with | .int i, .int j => some (decide (j ≤ i)) | _, _ => none
  | .isin => inD a b
  | .notin => (inD a b).map (!·)
def indexD (m y : D) : Option D := match m with
  | .lst ds => if flatD y && ds.all flatD then (ds.findIdx? fun d => eqvN 62 d y).map fun j => .int j else none
  | .kt ds => match y with
    | .str s => (ds.findIdx? fun d => match d with | .str s' => s' == s | _ => false).map fun j => .int j
    | _ => none
  | _ => none
def asB : D → Option Bool
  | .bl b => some b
  | _ => none
def asI : D → Option Int
  | .int i => some i
  | _ => none
/-- the place that an index means -/
def ixD (n : Nat) (i : Int) : Option Nat := if 0 ≤ i then (if i < n then some i.toNat else none) else if -(n : Int) ≤ i then some (i + n).toNat else none
def atD (a i : D) : Option D := match a with
  | .scr ns => match i with | .int i => (ixD ns.length i).bind fun j => (ns[j]?).map D.int | _ => none
  | .dct k kvs => if keyD k i then dlook i kvs else none
  | a => match i with | .int i => (elems a).bind fun ds => (ixD ds.length i).bind fun j => ds[j]? | _ => none
def clipD (n d : Nat) : Option Int → Nat
  | none => d
  | some v => if v < 0 then (max (v + n) 0).toNat else (min v n).toNat
def cutD {α : Type} (ds : List α) (lo hi : Option Int) : List α :=
  (ds.drop (clipD ds.length 0 lo)).take (clipD ds.length ds.length hi - clipD ds.length 0 lo)
def slD (a : D) (lo hi : Option Int) : Option D := match a with
  | .tup ds => some (.tup (cutD ds lo hi))
  | .lst ds => some (.lst (cutD ds lo hi))
  | _ => none
def slrD (a : D) : Option D := match a with
  | .tup ds => some (.tup ds.reverse)
  | .lst ds => some (.lst ds.reverse)
  | _ => none
def intsD : List D → Option (List Int)
  | [] => some []
  | .int i :: r => (intsD r).map (i :: ·)
  | _ => none
def boolsD : List D → Option (List Bool)
  | [] => some []
  | .bl i :: r => (boolsD r).map (i :: ·)
  | _ => none
def ins (i : Int) : List Int → List Int
  | [] => [i]
  | j :: r => if i ≤ j then i :: j :: r else j :: ins i r
def isort : List Int → List Int
  | [] => []
  | i :: r => ins i (isort r)
/-- ascending, each once -/
def inS (i : Int) : List Int → List Int
  | [] => [i]
  | j :: r => if i < j then i :: j :: r else if i = j then j :: r else j :: inS i r
def ssort : List Int → List Int
  | [] => []
  | i :: r => inS i (ssort r)
def maxL : List Int → Option Int
  | [] => none
  | [i] => some i
  | i :: r => (maxL r).map fun m => if i < m then m else i
def minL : List Int → Option Int
  | [] => none
  | [i] => some i
  | i :: r => (minL r).map fun m => if m < i then m else i
def rngL (lo c : Int) (n : Nat) : List D := (List.range n).map fun (i : Nat) => .int (lo + (i : Int) * c)
def in62 (i : Int) : Bool := decide (-(2 ^ 62) ≤ i) && decide (i < 2 ^ 62)
def rngD (ds : List D) : Option (List D) := match ds with
  | [.int j] => if in62 j then some (rngL 0 1 j.toNat) else none
  | [.int i, .int j] => if in62 i && in62 j then some (rngL i 1 (j - i).toNat) else none
  | [.int i, .int j, .int c] => if in62 i && in62 j && decide (c = -1) then some (rngL i (-1) (i - j).toNat) else none
  | _ => none
def enuL : Nat → List D → List D
  | _, [] => []
  | n, d :: r => .tup [.int n, d] :: enuL (n + 1) r
def zipL : List D → List D → List D
  | x :: xs, y :: ys => .tup [x, y] :: zipL xs ys
  | _, _ => []
def zipD : D → D → Option (List D)
  | .lst x, .lst y => some (zipL x y)
  | .tup x, .tup y => some (zipL x y)
  | .tup x, .lst y => some (zipL x y)
  | _, _ => none

/-- built-in functions and types that are called -/
inductive Bi where
  | len | abs | int | max2 | min2 | max1 | min1 | sum | all | sorted | sset | lenset | tuple | list | listrng | tuprng | listvals | str
  deriving DecidableEq
def lenD : D → Option Int
  | .lst ds => some ds.length
  | .tup ds => some ds.length
  | .scr ns => some ns.length
  | .str s => if s.length ≤ LIM then some s.length else none
  | _ => none
def biD (b : Bi) (ds : List D) : Option D := match b, ds with
  | .len, [d] => (lenD d).map .int
  | .abs, [.int i] => some (.int (if i < 0 then -i else i))
  | .int, [.int i] => some (.int i)
  | .int, [.bl b] => some (.int (if b then 1 else 0))
  | .max2, [.int i, .int j] => some (.int (if j > i then j else i))
  | .min2, [.int i, .int j] => some (.int (if j < i then j else i))
  | .max1, [d] => (lstD d).bind fun ds => (intsD ds).bind fun ns => (maxL ns).map .int
  | .min1, [d] => (lstD d).bind fun ds => (intsD ds).bind fun ns => (minL ns).map .int
  | .sum, [d] => (elems d).bind fun ds => (intsD ds).map fun ns => .int ns.sum
  | .all, [d] => (lstD d).bind fun ds => (boolsD ds).map fun bs => .bl (bs.all id)
  | .sorted, [d] => (elems d).bind fun ds => (intsD ds).map fun ns => .lst ((isort ns).map .int)
  | .sset, [d] => (elems d).bind fun ds => (intsD ds).bind fun ns => if ns.length < 4000 ∧ (ssort ns).length < 64 then some (.lst ((ssort ns).map .int)) else none
  | .lenset, [d] => (elems d).bind fun ds => (intsD ds).bind fun ns => if ns.length < 4000 then some (.int (ssort ns).length) else none
  | .tuple, [d] => (elems d).map .tup
  | .list, [d] => (elems d).map .lst
  | .listrng, ds => (rngD ds).bind fun xs => if xs.length ≤ LIM then some (.lst xs) else none
  | .tuprng, ds => (rngD ds).bind fun xs => if xs.length ≤ LIM then some (.tup xs) else none
  | .listvals, [.dct false kvs] => some (.lst (kvs.map (·.2)))
  | .str, [.int i] => if i.natAbs.log2 < 1920 then some (.str (toString i)) else none
  | _, _ => none
inductive Ty where | int | bool | str | tuple
  deriving DecidableEq
def isD : Ty → D → Option Bool
  | _, .ref _ => none
  | _, .scr _ => none
  | _, .kt _ => none
  | _, .dct _ _ => none
  | t, d => some (match t, d with
    | .int, .int _ => true | .int, .bl _ => true | .bool, .bl _ => true | .str, .str _ => true | .tuple, .tup _ => true | _, _ => false)

/-! ### the syntax -/
inductive Tg where | one (i : Nat) | many (is : List Nat)
inductive Ex where
  | nil | cons (e es : Ex)
  | cint (i : Int) | cstr (s : Str) | cbl (b : Bool) | cnon
  | var (i : Nat) | bor (i : Nat) | own (i : Nat) | glob (g : Nat)
  | bin (op : Bop) (a b : Ex) | neg (a : Ex) | not (a : Ex)
  | cmp (op : Cop) (a b : Ex) | chain (p q : Cop) (a b c : Ex) | chain3 (p q r : Cop) (a b c d : Ex) | isc (neg : Bool) (a : Ex) (c : D)
  | and (es : Ex) | or (es : Ex) | ife (t a b : Ex)
  | tup (es : Ex) | list (es : Ex) | dict (k : Bool) (ps : Ex)
  | ix (a i : Ex) | sl (a lo hi : Ex) | slr (a : Ex) | ixr (i : Nat) (k : Ex) | inr (neg : Bool) (k : Ex) (i : Nat)
  | call (f : Nat) (es : Ex) | bi (b : Bi) (es : Ex) | isi (a : Ex) (t : Ty)
  | dget (i : Nat) (k x : Ex) | index (a x : Ex)
  | lc (elt : Ex) (tg : Tg) (it tests : Ex) | share (e : Ex) | lvals (a : Ex)
  | seq (a : Ex) | rng (es : Ex) | enu (a : Ex) | zip (a b : Ex) | items (a : Ex)

inductive Stm where
  | skip | seq (s t : Stm)
  | asg (i : Nat) (e : Ex) | asgo (i : Nat) (e : Ex)
  | tasg (is : List Nat) (e : Ex) | pasg (is : List Nat) (os : List Bool) (es : Ex)
  | fz (i : Nat) | shr (i : Nat)
  | setix (i : Nat) (k e : Ex) | swap (i : Nat) (a b : Ex) (es : Ex) | app (i : Nat) (e : Ex) | exp (e : Ex)
  | ite (t : Ex) (a b : Stm) | whl (t : Ex) (b : Stm) | forin (tg : Tg) (it : Ex) (b : Stm)
  | ret (e : Ex) | brk | cnt | pass | never

/-- a flow's end -/
inductive Fl where
  | nx | bk | ct | rt (d : D) (fr : Bool)

/-- several names, one value each -/
def putL : Rho → List Nat → List D → Option Rho
  | ρ, [], [] => some ρ
  | ρ, i :: is, d :: ds => putL (put ρ i (.v d)) is ds
  | _, _, _ => none
def bindT (tg : Tg) (d : D) (ρ : Rho) : Option Rho := match tg with
  | .one i => some (put ρ i (.v d))
  | .many is => match d with | .tup ds => putL ρ is ds | .lst ds => putL ρ is ds | _ => none

/-- a display's dict -/
def pairsD : List D → Option (List (D × D))
  | [] => some []
  | k :: v :: r => (pairsD r).map ((k, v) :: ·)
  | _ => none
def dispD (k : Bool) (ds : List D) : Option D := (pairsD ds).bind fun kvs => if (kvs.length ≤ 15 ∧ kvs.all (fun p => keyD k p.1) = true) ∧ (k = true → kvs = []) then some (.dct k (kvs.foldl (fun m p => dput p.1 p.2 m) [])) else none
/-- the object that a name holds or means, to be looked at -/
def obV (ρ : Rho) (st : Sto) (i : Nat) : Option Ob := match get ρ i with
  | .own o => some o
  | .v (.ref l) => st[l]?
  | .v (.dct k kvs) => some (.dct k kvs)
  | _ => none
/-- a list comprehension's loop -/
def lcL (test : D → Sto → Res Bool) (elt : D → Sto → Res D) : List D → Sto → Res (List D)
  | [], st => .ok [] st
  | x :: xs, st => (test x st).bind fun b st => if b then (elt x st).bind fun y st => (lcL test elt xs st).bind fun ys st => .ok (y :: ys) st else lcL test elt xs st

section
variable (F : Nat → List D → Sto → Res (D × Bool)) (Γ : Nat → D)
def optI (e : Ex) (r : Res D) (st : Sto) : Res (Option Int) := match e with
  | .nil => .ok none st
  | _ => r.bind fun d st => lift ((asI d).map some) st
mutual
def evE : Ex → Rho → Sto → Res D
  | .cint i, _, st => .ok (.int i) st
  | .cstr s, _, st => .ok (.str s) st
  | .cbl b, _, st => .ok (.bl b) st
  | .cnon, _, st => .ok .non st
  | .var i, ρ, st => match get ρ i with | .v d => .ok d st | _ => .bad
  | .bor i, ρ, st => match get ρ i with | .v d => .ok d st | .own o => .ok o.toD st | .un => .bad
  | .own i, ρ, st => match get ρ i with | .own o => .ok o.toD st | _ => .bad
  | .glob g, _, st => .ok (Γ g) st
  | .bin op a b, ρ, st => (evE a ρ st).bind fun x st => (evE b ρ st).bind fun y st => lift (binD op x y) st
  | .neg a, ρ, st => (evE a ρ st).bind fun x st => lift ((asI x).map fun i => .int (-i)) st
  | .not a, ρ, st => (evE a ρ st).bind fun x st => lift ((asB x).map fun b => .bl (!b)) st
  | .cmp op a b, ρ, st => (evE a ρ st).bind fun x st => (evE b ρ st).bind fun y st => lift ((cmpD op x y).map .bl) st
  | .chain p q a b c, ρ, st => (evE a ρ st).bind fun x st => (evE b ρ st).bind fun y st => (lift (cmpD p x y) st).bind fun r st =>
      if r then (evE c ρ st).bind fun z st => lift ((cmpD q y z).map .bl) st else .ok (.bl false) st
  | .chain3 p q s a b c d, ρ, st => (evE a ρ st).bind fun x st => (evE b ρ st).bind fun y st => (lift (cmpD p x y) st).bind fun r st =>
      if r then (evE c ρ st).bind fun z st => (lift (cmpD q y z) st).bind fun r2 st => if r2 then (evE d ρ st).bind fun w st => lift ((cmpD s z w).map .bl) st else .ok (.bl false) st else .ok (.bl false) st
  | .isc n a c, ρ, st => (evE a ρ st).bind fun x st => match c with
      | .non => .ok (.bl (n != (match x with | .non => true | _ => false))) st
      | .bl b => match x with
        | .bl b' => .ok (.bl (n != (b' == b))) st
        | _ => .bad
      | _ => .bad
  | .and es, ρ, st => evAnd es ρ st
  | .or es, ρ, st => evOr es ρ st
  | .ife t a b, ρ, st => (evE t ρ st).bind fun x st => (lift (asB x) st).bind fun c st => if c then evE a ρ st else evE b ρ st
  | .tup es, ρ, st => (evA es ρ st).bind fun ds st => if ds.length ≤ LIM then .ok (.tup ds) st else .bad
  | .list es, ρ, st => (evA es ρ st).bind fun ds st => if ds.length ≤ LIM then .ok (.lst ds) st else .bad
  | .dict k ps, ρ, st => (evA ps ρ st).bind fun ds st => (lift (dispD k ds) st).bind fun d st => .ok d st
  | .ix a i, ρ, st => (evE a ρ st).bind fun x st => (evE i ρ st).bind fun y st => lift (atD x y) st
  | .sl a lo hi, ρ, st => (evE a ρ st).bind fun x st => (optI lo (evE lo ρ st) st).bind fun l st => (optI hi (evE hi ρ st) st).bind fun h st => lift (slD x l h) st
  | .ixr i k, ρ, st => match get ρ i with
    | .v (.ref l) => (evE k ρ st).bind fun y st => (lift st[l]? st).bind fun o st => lift (atD o.toD y) st
    | _ => .bad
  | .inr n k i, ρ, st => (evE k ρ st).bind fun y st => match get ρ i with
    | .v (.ref l) => (lift st[l]? st).bind fun o st => lift ((inO o y).map fun b => .bl (n != b)) st
    | _ => .bad
  | .slr a, ρ, st => (evE a ρ st).bind fun x st => lift (slrD x) st
  | .call f es, ρ, st => (evA es ρ st).bind fun ds st => (F f ds st).bind fun r st => .ok r.1 st
  | .bi b es, ρ, st => (evA es ρ st).bind fun ds st => lift (biD b ds) st
  | .isi a t, ρ, st => (evE a ρ st).bind fun x st => lift ((isD t x).map .bl) st
  | .dget i k x, ρ, st => match obV ρ st i with
    | some (.dct _ _) => (evE k ρ st).bind fun y st => (evE x ρ st).bind fun z st => match obV ρ st i with
      | some (.dct kd kvs) => if keyD kd y then .ok ((dlook y kvs).getD z) st else .bad
      | _ => .bad
    | _ => .bad
  | .index a x, ρ, st => (evE a ρ st).bind fun m st => (evE x ρ st).bind fun y st => lift (indexD m y) st
  | .lc elt tg it tests, ρ, st => (evI it ρ st).bind fun xs st => if xs.length ≤ LIM then
      (lcL (fun d st => (lift (bindT tg d ρ) st).bind fun ρ' st => evTs tests ρ' st) (fun d st => (lift (bindT tg d ρ) st).bind fun ρ' st => evE elt ρ' st) xs st).bind fun ys st => .ok (.lst ys) st else .bad
  | .lvals a, ρ, st => (evE a ρ st).bind fun x st => match x with
      | .dct false kvs => .ok (.lst (kvs.map (·.2))) st
      | _ => .bad
  | .share e, ρ, st => (evE e ρ st).bind fun d st => match d with
      | .lst ds => .ok (.ref st.length) (st ++ [.lst ds])
      | .dct k kvs => .ok (.ref st.length) (st ++ [.dct k kvs])
      | _ => .bad
  | _, _, _ => .bad
def evA : Ex → Rho → Sto → Res (List D)
  | .nil, _, st => .ok [] st
  | .cons e es, ρ, st => (evE e ρ st).bind fun d st => (evA es ρ st).bind fun ds st => .ok (d :: ds) st
  | _, _, _ => .bad
def evAnd : Ex → Rho → Sto → Res D
  | .cons e .nil, ρ, st => evE e ρ st
  | .cons e (.cons e' es), ρ, st => (evE e ρ st).bind fun x st => (lift (asB x) st).bind fun c st => if c then evAnd (.cons e' es) ρ st else .ok (.bl false) st
  | _, _, _ => .bad
def evOr : Ex → Rho → Sto → Res D
  | .cons e .nil, ρ, st => evE e ρ st
  | .cons e (.cons e' es), ρ, st => (evE e ρ st).bind fun x st => (lift (asB x) st).bind fun c st => if c then .ok (.bl true) st else evOr (.cons e' es) ρ st
  | _, _, _ => .bad
/-- a comprehension's tests -/
def evTs : Ex → Rho → Sto → Res Bool
  | .nil, _, st => .ok true st
  | .cons e es, ρ, st => (evE e ρ st).bind fun x st => (lift (asB x) st).bind fun c st => if c then evTs es ρ st else .ok false st
  | _, _, _ => .bad
/-- what a loop walks -/
def evI : Ex → Rho → Sto → Res (List D)
  | .seq a, ρ, st => (evE a ρ st).bind fun x st => lift (elemsK x) st
  | .rng es, ρ, st => (evA es ρ st).bind fun ds st => lift (rngD ds) st
  | .enu a, ρ, st => (evE a ρ st).bind fun x st => lift ((elems x).map (enuL 0)) st
  | .zip a b, ρ, st => (evE a ρ st).bind fun x st => (evE b ρ st).bind fun y st => lift (zipD x y) st
  | .items a, ρ, st => (evE a ρ st).bind fun x st => match x with
      | .dct false kvs => .ok (kvs.map fun p => .tup [p.1, p.2]) st
      | _ => .bad
  | _, _, _ => .bad
end
/-- the forms that make a new object -/
def frX : Ex → D → Bool
  | .own _, _ => true
  | .list _, _ => true
  | .dict .., _ => true
  | .lc .., _ => true
  | .lvals _, _ => true
  | .bi b _, _ => match b with | .sorted => true | .sset => true | .list => true | .listrng => true | .listvals => true | _ => false
  | .bin op _ _, d => match op, d with | .add, .lst _ => true | .mul, .lst _ => true | _, _ => false
  | .slr _, .lst _ => true
  | .sl _ _ _, .lst _ => true
  | _, _ => false
/-- an answer with its mark -/
def evX (e : Ex) (ρ : Rho) (st : Sto) : Res (D × Bool) := match e with
  | .call f es => (evA F Γ es ρ st).bind fun ds st => F f ds st
  | e => (evE F Γ e ρ st).bind fun d st => .ok (d, frX e d) st
def ownOf : D → Option Ob
  | .lst ds => some (.lst ds)
  | .dct k kvs => some (.dct k kvs)
  | _ => none
/-- what a name is to hold: an own object (a new one), or a value -/
def slOf (b : Bool) (r : D × Bool) : Option Sl := if b then (if r.2 then (ownOf r.1).map .own else none) else some (.v r.1)
def evP : Ex → List Bool → Rho → Sto → Res (List Sl)
  | .nil, [], _, st => .ok [] st
  | .cons e es, b :: os, ρ, st => (evX F Γ e ρ st).bind fun r st => (lift (slOf b r) st).bind fun s st => (evP es os ρ st).bind fun ss st => .ok (s :: ss) st
  | _, _, _, _ => .bad
def putS : Rho → List Nat → List Sl → Option Rho
  | ρ, [], [] => some ρ
  | ρ, i :: is, s :: ss => putS (put ρ i s) is ss
  | _, _, _ => none
abbrev RS := Res (Fl × Rho)
def forL (step : D → Rho → Sto → RS) : List D → Rho → Sto → RS
  | [], ρ, st => .ok (.nx, ρ) st
  | d :: ds, ρ, st => (step d ρ st).bind fun r st => match r.1 with
    | .nx => forL step ds r.2 st
    | .ct => forL step ds r.2 st
    | .bk => .ok (.nx, r.2) st
    | .rt d b => .ok (.rt d b, r.2) st
def whlL (c : Rho → Sto → Res Bool) (b : Rho → Sto → RS) : Nat → Rho → Sto → RS
  | 0, _, _ => .bad
  | n + 1, ρ, st => (c ρ st).bind fun t st => if t then (b ρ st).bind fun r st => match r.1 with
      | .nx => whlL c b n r.2 st
      | .ct => whlL c b n r.2 st
      | .bk => .ok (.nx, r.2) st
      | .rt d b => .ok (.rt d b, r.2) st
    else .ok (.nx, ρ) st
/-- the object that a name holds or means, and how it is put back -/
def obAt (ρ : Rho) (st : Sto) (i : Nat) : Option Ob := match get ρ i with
  | .own o => some o
  | .v (.ref l) => st[l]?
  | _ => none
def obPut (ρ : Rho) (st : Sto) (i : Nat) (o : Ob) : RS := match get ρ i with
  | .own _ => .ok (.nx, put ρ i (.own o)) st
  | .v (.ref l) => .ok (.nx, ρ) (st.set l o)
  | _ => .bad
def setOb (o : Ob) (k v : D) : Option Ob := match o with
  | .lst ds => (asI k).bind fun i => (ixD ds.length i).map fun j => .lst (ds.set j v)
  | .dct kd kvs => if keyD kd k && decide (kvs.length < LIM) then some (.dct kd (dput k v kvs)) else none
def WF : Nat := 1000000
def evS : Stm → Rho → Sto → RS
  | .skip, ρ, st => .ok (.nx, ρ) st
  | .seq s t, ρ, st => (evS s ρ st).bind fun r st => match r.1 with
    | .nx => evS t r.2 st
    | f => .ok (f, r.2) st
  | .asg i e, ρ, st => (evE F Γ e ρ st).bind fun d st => .ok (.nx, put ρ i (.v d)) st
  | .asgo i e, ρ, st => (evX F Γ e ρ st).bind fun r st => (lift (slOf true r) st).bind fun s st => .ok (.nx, put ρ i s) st
  | .tasg is e, ρ, st => (evE F Γ e ρ st).bind fun d st => (lift (bindT (.many is) d ρ) st).bind fun ρ' st => .ok (.nx, ρ') st
  | .pasg is os es, ρ, st => (evP F Γ es os ρ st).bind fun ss st => (lift (putS ρ is ss) st).bind fun ρ' st => .ok (.nx, ρ') st
  | .fz i, ρ, st => match get ρ i with | .own o => .ok (.nx, put ρ i (.v o.toD)) st | _ => .bad
  | .shr i, ρ, st => match get ρ i with | .own o => .ok (.nx, put ρ i (.v (.ref st.length))) (st ++ [o]) | _ => .bad
  | .setix i k e, ρ, st => (evE F Γ e ρ st).bind fun v st => (evE F Γ k ρ st).bind fun y st => (lift (obAt ρ st i) st).bind fun o st => (lift (setOb o y v) st).bind fun o' st => obPut ρ st i o'
  | .swap i a b es, ρ, st => (evA F Γ es ρ st).bind fun vs st => match vs with
      | [v, w] => (evE F Γ a ρ st).bind fun y st => (lift (obAt ρ st i) st).bind fun o st => (lift (setOb o y v) st).bind fun o' st => (obPut ρ st i o').bind fun r st =>
        (evE F Γ b r.2 st).bind fun z st => (lift (obAt r.2 st i) st).bind fun o st => (lift (setOb o z w) st).bind fun o' st => obPut r.2 st i o'
      | _ => .bad
  | .app i e, ρ, st => match obAt ρ st i with
    | some (.lst _) => (evE F Γ e ρ st).bind fun v st => (lift (obAt ρ st i) st).bind fun o st => match o with
      | .lst ds => if ds.length < LIM then obPut ρ st i (.lst (ds ++ [v])) else .bad
      | _ => .bad
    | _ => .bad
  | .exp e, ρ, st => (evE F Γ e ρ st).bind fun _ st => .ok (.nx, ρ) st
  | .ite t a b, ρ, st => (evE F Γ t ρ st).bind fun x st => (lift (asB x) st).bind fun c st => if c then evS a ρ st else evS b ρ st
  | .whl t b, ρ, st => whlL (fun ρ st => (evE F Γ t ρ st).bind fun x st => lift (asB x) st) (fun ρ st => evS b ρ st) WF ρ st
  | .forin tg it b, ρ, st => (evI F Γ it ρ st).bind fun xs st => forL (fun d ρ st => (lift (bindT tg d ρ) st).bind fun ρ' st => evS b ρ' st) xs ρ st
  | .ret e, ρ, st => (evX F Γ e ρ st).bind fun d st => .ok (.rt d.1 d.2, ρ) st
  | .brk, ρ, st => .ok (.bk, ρ) st
  | .cnt, ρ, st => .ok (.ct, ρ) st
  | .pass, ρ, st => .ok (.nx, ρ) st
  | .never, _, _ => .bad
end
/-- a def: its parameters' number, its body -/
structure Df where
  np : Nat
  nl : Nat
  body : Stm
def start (nl : Nat) (ds : List D) : Rho := ds.map Sl.v ++ List.replicate (nl - ds.length) .un
def evD (F : Nat → List D → Sto → Res (D × Bool)) (Γ : Nat → D) (d : Df) (ds : List D) (st : Sto) : Res (D × Bool) :=
  if ds.length = d.np then (evS F Γ d.body (start d.nl ds) st).bind fun r st => match r.1 with
    | .nx => .ok (.non, false) st
    | .rt d b => .ok (d, b) st
    | _ => .bad
  else .bad
/-- the meaning of calls, by how many lie in one another -/
def FF (Δ : Nat → Option Df) (Γ : Nat → D) : Nat → Nat → List D → Sto → Res (D × Bool)
  | 0, _, _, _ => .bad
  | n + 1, f, ds, st => match Δ f with
    | some d => evD (FF Δ Γ n) Γ d ds st
    | none => .bad
end Ev
set_option Elab.async false
set_option linter.all false
set_option maxRecDepth 100000
set_option maxHeartbeats 1000000
/-! How the plain machine's values lie in the model's heap. -/
namespace Ev
open PySem PySem.Spec PyProof.Rows L2

/-- who may change an object: a result that is not yet bound, a name, the store, callers -/
inductive Tag where | tmp | slot (i : Nat) | loc (l : Nat) | outer
  deriving DecidableEq
abbrev TF := Addr → Option Tag
def kD : Key → D
  | .inl i => .int i
  | .inr s => .str s
def kT (k : List Key) : D := .tup (k.map kD)

mutual
inductive RV (K : PySem.W.Frag) (H : Hp) (tg : TF) : V → D → Prop where
  | non : RV K H tg .non .non
  | bl (b : Bool) : RV K H tg (.bl b) (.bl b)
  | int (i : Int) : RV K H tg (.int i) (.int i)
  | str (s : Str) : RV K H tg (.str s) (.str s)
  | tup {a : Addr} {xs : List V} {ds : List D} (h : H a = some (.tup xs)) (t : tg a = none) (r : RVs K H tg xs ds) : RV K H tg (.ref a) (.tup ds)
  | kt {a : Addr} {xs : List V} {ds : List D} (h : ∀ H', SqT K H' a xs) (r : RVs K H tg xs ds) : RV K H tg (.ref a) (.kt ds)
  | lst {a : Addr} {xs : List V} {ds : List D} (h : H a = some (.lst xs)) (t : tg a = none) (r : RVs K H tg xs ds) : RV K H tg (.ref a) (.lst ds)
  | dK {a : Addr} {ks : List (Key × V)} {kvs : List (D × D)} (h : Rd H a (.dK ks)) (t : tg a = none) (r : RVk K H tg ks kvs) : RV K H tg (.ref a) (.dct false kvs)
  | dT {a : Addr} {ks : List (List Key × V)} {kvs : List (D × D)} (h : H a = some (.dT ks)) (t : tg a = none) (r : RVt K H tg ks kvs) : RV K H tg (.ref a) (.dct true kvs)
  | ref {a : Addr} {l : Nat} (t : tg a = some (.loc l)) : RV K H tg (.ref a) (.ref l)
  | scr {a : Addr} {ns : List Int} (h : (∃ o, H a = some (.frz o (.lst (ns.map V.int))) ∧ tg a = none) ∨ (∀ H', SqL K H' a (ns.map V.int))) : RV K H tg (.ref a) (.scr ns)
inductive RVs (K : PySem.W.Frag) (H : Hp) (tg : TF) : List V → List D → Prop where
  | nil : RVs K H tg [] []
  | cons {x : V} {d : D} {xs : List V} {ds : List D} (h : RV K H tg x d) (r : RVs K H tg xs ds) : RVs K H tg (x :: xs) (d :: ds)
inductive RVk (K : PySem.W.Frag) (H : Hp) (tg : TF) : List (Key × V) → List (D × D) → Prop where
  | nil : RVk K H tg [] []
  | cons {k : Key} {x : V} {d : D} {xs : List (Key × V)} {ds : List (D × D)} (h : RV K H tg x d) (r : RVk K H tg xs ds) : RVk K H tg ((k, x) :: xs) ((kD k, d) :: ds)
inductive RVt (K : PySem.W.Frag) (H : Hp) (tg : TF) : List (List Key × V) → List (D × D) → Prop where
  | nil : RVt K H tg [] []
  | cons {k : List Key} {x : V} {d : D} {xs : List (List Key × V)} {ds : List (D × D)} (h : RV K H tg x d) (r : RVt K H tg xs ds) : RVt K H tg ((k, x) :: xs) ((kT k, d) :: ds)
end

/-- what is frozen stands as it was, the store's objects keep their marks -/
structure Le (H : Hp) (tg : TF) (H' : Hp) (tg' : TF) : Prop where
  fz : ∀ a o, H a = some o → tg a = none → H' a = some o ∧ tg' a = none
  loc : ∀ a l, tg a = some (.loc l) → tg' a = some (.loc l)
theorem Le.refl {H : Hp} {tg : TF} : Le H tg H tg := ⟨fun _ _ h t => ⟨h, t⟩, fun _ _ h => h⟩
theorem Le.trans {H H1 H2 : Hp} {tg tg1 tg2 : TF} (a : Le H tg H1 tg1) (b : Le H1 tg1 H2 tg2) : Le H tg H2 tg2 :=
  ⟨fun x o h t => let ⟨h1, t1⟩ := a.fz x o h t; b.fz x o h1 t1, fun x l h => b.loc x l (a.loc x l h)⟩

section
variable {K : PySem.W.Frag} {H H' : Hp} {tg tg' : TF}
mutual
theorem RV.mono (e : Le H tg H' tg') : ∀ {d : D} {v : V}, RV K H tg v d → RV K H' tg' v d
  | .non, _, h => by cases h; exact .non
  | .bl b, _, h => by cases h; exact .bl b
  | .int b, _, h => by cases h; exact .int b
  | .str b, _, h => by cases h; exact .str b
  | .tup ds, _, h => by
    cases h with
    | tup h t r => obtain ⟨h', t'⟩ := e.fz _ _ h t; exact .tup h' t' (RVs.mono e r)
  | .kt ds, _, h => by
    cases h with
    | kt h r => exact .kt h (RVs.mono e r)
  | .lst ds, _, h => by
    cases h with
    | lst h t r => obtain ⟨h', t'⟩ := e.fz _ _ h t; exact .lst h' t' (RVs.mono e r)
  | .dct k kvs, _, h => by
    cases h with
    | dK h t r =>
      rcases h with h | ⟨o, h⟩
      · obtain ⟨h', t'⟩ := e.fz _ _ h t; exact .dK (.inl h') t' (RVk.mono e r)
      · obtain ⟨h', t'⟩ := e.fz _ _ h t; exact .dK (.inr ⟨o, h'⟩) t' (RVk.mono e r)
    | dT h t r => obtain ⟨h', t'⟩ := e.fz _ _ h t; exact .dT h' t' (RVt.mono e r)
  | .ref l, _, h => by
    cases h with
    | ref t => exact .ref (e.loc _ _ t)
  | .scr ns, _, h => by
    cases h with
    | scr h => exact .scr (h.imp (fun ⟨o, h, t⟩ => ⟨o, e.fz _ _ h t⟩) id)
theorem RVs.mono (e : Le H tg H' tg') : ∀ {ds : List D} {xs : List V}, RVs K H tg xs ds → RVs K H' tg' xs ds
  | [], _, h => by cases h; exact .nil
  | d :: ds, _, h => by
    cases h with
    | cons h r => exact .cons (RV.mono e h) (RVs.mono e r)
theorem RVk.mono (e : Le H tg H' tg') : ∀ {ds : List (D × D)} {xs : List (Key × V)}, RVk K H tg xs ds → RVk K H' tg' xs ds
  | [], _, h => by cases h; exact .nil
  | (k, d) :: ds, _, h => by
    cases h with
    | cons h r => exact .cons (RV.mono e h) (RVk.mono e r)
theorem RVt.mono (e : Le H tg H' tg') : ∀ {ds : List (D × D)} {xs : List (List Key × V)}, RVt K H tg xs ds → RVt K H' tg' xs ds
  | [], _, h => by cases h; exact .nil
  | (k, d) :: ds, _, h => by
    cases h with
    | cons h r => exact .cons (RV.mono e h) (RVt.mono e r)
end
theorem RVs.length : ∀ {ds : List D} {xs : List V}, RVs K H tg xs ds → xs.length = ds.length
  | [], _, h => by cases h; rfl
  | d :: ds, _, h => by
    cases h with
    | cons h r => simp only [List.length_cons]; rw [RVs.length r]
theorem RVk.length : ∀ {ds : List (D × D)} {xs : List (Key × V)}, RVk K H tg xs ds → xs.length = ds.length
  | [], _, h => by cases h; rfl
  | d :: ds, _, h => by
    cases h with
    | cons h r => simp only [List.length_cons]; rw [RVk.length r]
theorem RVt.length : ∀ {ds : List (D × D)} {xs : List (List Key × V)}, RVt K H tg xs ds → xs.length = ds.length
  | [], _, h => by cases h; rfl
  | d :: ds, _, h => by
    cases h with
    | cons h r => simp only [List.length_cons]; rw [RVt.length r]
theorem RVs.get : ∀ {ds : List D} {xs : List V} {i : Nat} {d : D}, RVs K H tg xs ds → ds[i]? = some d → ∃ v, xs[i]? = some v ∧ RV K H tg v d
  | [], _, i, d, h, e => by simp at e
  | d0 :: ds, _, 0, d, h, e => by
    cases h with
    | cons h r => simp at e; subst e; exact ⟨_, rfl, h⟩
  | d0 :: ds, _, i + 1, d, h, e => by
    cases h with
    | cons h r =>
      obtain ⟨v, h1, h2⟩ := RVs.get (i := i) r (by simpa using e)
      exact ⟨v, by simpa using h1, h2⟩
theorem RVs.get' : ∀ {ds : List D} {xs : List V} {i : Nat} {v : V}, RVs K H tg xs ds → xs[i]? = some v → ∃ d, ds[i]? = some d ∧ RV K H tg v d
  | [], _, i, d, h, e => by cases h; simp at e
  | d0 :: ds, _, 0, d, h, e => by
    cases h with
    | cons h r => simp at e; subst e; exact ⟨_, rfl, h⟩
  | d0 :: ds, _, i + 1, d, h, e => by
    cases h with
    | cons h r =>
      obtain ⟨v, h1, h2⟩ := RVs.get' (i := i) r (by simpa using e)
      exact ⟨v, by simpa using h1, h2⟩
theorem RVs.append : ∀ {ds es : List D} {xs ys : List V}, RVs K H tg xs ds → RVs K H tg ys es → RVs K H tg (xs ++ ys) (ds ++ es)
  | [], _, _, _, h, r => by cases h; exact r
  | d :: ds, _, _, _, h, r => by
    cases h with
    | cons h q => exact .cons h (RVs.append q r)
theorem RVs.drop : ∀ {ds : List D} {xs : List V} (n : Nat), RVs K H tg xs ds → RVs K H tg (xs.drop n) (ds.drop n)
  | _, _, 0, h => h
  | [], _, n + 1, h => by cases h; exact .nil
  | d :: ds, _, n + 1, h => by
    cases h with
    | cons h q => exact RVs.drop n q
theorem RVs.take : ∀ {ds : List D} {xs : List V} (n : Nat), RVs K H tg xs ds → RVs K H tg (xs.take n) (ds.take n)
  | _, _, 0, h => .nil
  | [], _, n + 1, h => by cases h; exact .nil
  | d :: ds, _, n + 1, h => by
    cases h with
    | cons h q => exact .cons h (RVs.take n q)
theorem RVs.set {d : D} {v : V} (hv : RV K H tg v d) : ∀ {ds : List D} {xs : List V} (n : Nat), RVs K H tg xs ds → RVs K H tg (xs.set n v) (ds.set n d)
  | [], _, n, h => by cases h; exact .nil
  | d :: ds, _, 0, h => by
    cases h with
    | cons h q => exact .cons hv q
  | d :: ds, _, n + 1, h => by
    cases h with
    | cons h q => exact .cons h (RVs.set hv n q)
theorem RVs.reverse : ∀ {ds : List D} {xs : List V}, RVs K H tg xs ds → RVs K H tg xs.reverse ds.reverse
  | [], _, h => by cases h; exact .nil
  | d :: ds, _, h => by
    cases h with
    | cons h q => rw [List.reverse_cons, List.reverse_cons]; exact RVs.append (RVs.reverse q) (.cons h .nil)
theorem RVs.rep {ds : List D} {xs : List V} (h : RVs K H tg xs ds) : ∀ n : Nat, RVs K H tg (List.replicate n xs).flatten (List.replicate n ds).flatten
  | 0 => .nil
  | n + 1 => by
    rw [List.replicate_succ, List.replicate_succ, List.flatten_cons, List.flatten_cons]
    exact RVs.append h (RVs.rep h n)
theorem RVs.ints : ∀ {ds : List D} {xs : List V} {ns : List Int}, RVs K H tg xs ds → intsD ds = some ns → xs = ns.map V.int
  | [], _, ns, h, e => by cases h; cases e; rfl
  | d :: ds, _, ns, h, e => by
    cases h with
    | cons h q =>
      cases d with
      | int i =>
        cases h
        have e' : (intsD ds).map (i :: ·) = some ns := e
        cases he : intsD ds with
        | none => rw [he] at e'; cases e'
        | some ms =>
          rw [he] at e'
          cases e'
          rw [RVs.ints q he]
          rfl
      | _ => cases e
theorem RVs.bools : ∀ {ds : List D} {xs : List V} {ns : List Bool}, RVs K H tg xs ds → boolsD ds = some ns → xs = ns.map V.bl
  | [], _, ns, h, e => by cases h; cases e; rfl
  | d :: ds, _, ns, h, e => by
    cases h with
    | cons h q =>
      cases d with
      | bl i =>
        cases h
        have e' : (boolsD ds).map (i :: ·) = some ns := e
        cases he : boolsD ds with
        | none => rw [he] at e'; cases e'
        | some ms =>
          rw [he] at e'
          cases e'
          rw [RVs.bools q he]
          rfl
      | _ => cases e
theorem RVs.of_ints : ∀ (ns : List Int), RVs K H tg (ns.map V.int) (ns.map D.int)
  | [] => .nil
  | n :: ns => .cons (.int n) (RVs.of_ints ns)
end

/-- an object that may be changed, at an address -/
def RO (K : PySem.W.Frag) (H : Hp) (tg : TF) (a : Addr) : Ob → Prop
  | .lst ds => ∃ xs, H a = some (.lst xs) ∧ RVs K H tg xs ds
  | .dct false kvs => ∃ ks, H a = some (.dK ks) ∧ RVk K H tg ks kvs
  | .dct true kvs => ∃ ks, H a = some (.dT ks) ∧ RVt K H tg ks kvs
theorem RO.mono {K : PySem.W.Frag} {H H' : Hp} {tg tg' : TF} {a : Addr} {o : Ob} (e : Le H tg H' tg') (ha : H' a = H a) (h : RO K H tg a o) : RO K H' tg' a o := by
  cases o with
  | lst ds => obtain ⟨xs, h, r⟩ := h; exact ⟨xs, ha.trans h, r.mono e⟩
  | dct k kvs =>
    cases k with
    | false => obtain ⟨xs, h, r⟩ := h; exact ⟨xs, ha.trans h, r.mono e⟩
    | true => obtain ⟨xs, h, r⟩ := h; exact ⟨xs, ha.trans h, r.mono e⟩
/-- .. to be read -/
def ROr (K : PySem.W.Frag) (H : Hp) (tg : TF) (a : Addr) : Ob → Prop
  | .lst ds => ∃ xs, H a = some (.lst xs) ∧ RVs K H tg xs ds
  | .dct false kvs => ∃ ks, Rd H a (.dK ks) ∧ RVk K H tg ks kvs
  | .dct true kvs => ∃ ks, H a = some (.dT ks) ∧ RVt K H tg ks kvs
theorem RO.r {K : PySem.W.Frag} {H : Hp} {tg : TF} {a : Addr} {o : Ob} (h : RO K H tg a o) : ROr K H tg a o := by
  cases o with
  | lst ds => exact h
  | dct k kvs =>
    cases k with
    | false => obtain ⟨xs, h, r⟩ := h; exact ⟨xs, .inl h, r⟩
    | true => exact h
theorem RO.some {K : PySem.W.Frag} {H : Hp} {tg : TF} {a : Addr} {o : Ob} (h : RO K H tg a o) : H a ≠ none := by
  cases o with
  | lst ds => obtain ⟨xs, h, r⟩ := h; rw [h]; exact fun z => nomatch z
  | dct k kvs => cases k <;> (obtain ⟨xs, h, r⟩ := h; rw [h]; exact fun z => nomatch z)
/-- the marks and the store -/
structure Wf (K : PySem.W.Frag) (H : Hp) (tg : TF) (st : Sto) : Prop where
  dom : ∀ a, H a = none → tg a = none
  inj : ∀ a b l, tg a = some (.loc l) → tg b = some (.loc l) → a = b
  bnd : ∀ a l, tg a = some (.loc l) → l < st.length
  sto : ∀ l o, st[l]? = some o → ∃ a, tg a = some (.loc l) ∧ RO K H tg a o
abbrev NoTmp (tg : TF) : Prop := ∀ a, tg a ≠ some .tmp
/-- what an expression does: all but the store's objects stand, nothing but the store grows -/
structure Ext (H : Hp) (tg : TF) (H' : Hp) (tg' : TF) : Prop where
  keep : ∀ a o, H a = some o → (∀ l, tg a ≠ some (.loc l)) → H' a = some o ∧ tg' a = tg a
  loc : ∀ a l, tg a = some (.loc l) → tg' a = some (.loc l) ∧ H' a ≠ none
  slot : ∀ a i, tg' a = some (.slot i) → tg a = some (.slot i)
  out : ∀ a, tg' a = some .outer → tg a = some .outer
theorem Ext.refl {H : Hp} {tg : TF} (w : ∀ a, H a = none → tg a = none) : Ext H tg H tg := ⟨fun _ _ h _ => ⟨h, rfl⟩, fun a l h => ⟨h, fun z => by rw [w a z] at h; cases h⟩, fun _ _ h => h, fun _ h => h⟩
theorem Ext.le {H H' : Hp} {tg tg' : TF} (e : Ext H tg H' tg') : Le H tg H' tg' :=
  ⟨fun a o h t => let ⟨h1, t1⟩ := e.keep a o h (by rw [t]; exact fun _ z => nomatch z); ⟨h1, t1.trans t⟩, fun a l h => (e.loc a l h).1⟩
theorem Ext.trans {H H1 H2 : Hp} {tg tg1 tg2 : TF} (a : Ext H tg H1 tg1) (b : Ext H1 tg1 H2 tg2) : Ext H tg H2 tg2 where
  keep := fun x o h t => by
    obtain ⟨h1, t1⟩ := a.keep x o h t
    obtain ⟨h2, t2⟩ := b.keep x o h1 (by rw [t1]; exact t)
    exact ⟨h2, t2.trans t1⟩
  loc := fun x l h => b.loc x l (a.loc x l h).1
  slot := fun x i h => a.slot x i (b.slot x i h)
  out := fun x h => a.out x (b.out x h)
/-- a new object that nobody may change -/
theorem Ext.new {H : Hp} {tg : TF} {p : Addr} {o : HO} (w : ∀ a, H a = none → tg a = none) (hp : H p = none) : Ext H tg (upd H p o) tg where
  keep := fun a u h _ => ⟨by rw [upd_ne (ne_of_none h hp)]; exact h, rfl⟩
  loc := fun a l h => ⟨h, by
    by_cases e : a = p
    · subst e; rw [upd_same]; exact fun z => nomatch z
    · rw [upd_ne e]; exact fun z => by rw [w a z] at h; cases h⟩
  slot := fun _ _ h => h
  out := fun _ h => h
def mark (tg : TF) (p : Addr) (t : Option Tag) : TF := fun a => if a = p then t else tg a
theorem mark_same {tg : TF} {p : Addr} {t : Option Tag} : mark tg p t p = t := by unfold mark; rw [if_pos rfl]
theorem mark_ne {tg : TF} {p a : Addr} {t : Option Tag} (h : a ≠ p) : mark tg p t a = tg a := by unfold mark; rw [if_neg h]
/-- a new object, its mark: free or tmp -/
theorem Ext.newT {H : Hp} {tg : TF} {p : Addr} {o : HO} (w : ∀ a, H a = none → tg a = none) (hp : H p = none) : Ext H tg (upd H p o) (mark tg p (some .tmp)) where
  keep := fun a u h _ => ⟨by rw [upd_ne (ne_of_none h hp)]; exact h, by rw [mark_ne (ne_of_none h hp)]⟩
  loc := fun a l h => by
    have e : a ≠ p := fun z => by subst z; rw [w a hp] at h; cases h
    rw [mark_ne e, upd_ne e]
    exact ⟨h, fun z => by rw [w a z] at h; cases h⟩
  slot := fun a i h => by
    by_cases e : a = p
    · subst e; rw [mark_same] at h; cases h
    · rw [mark_ne e] at h; exact h
  out := fun a h => by
    by_cases e : a = p
    · subst e; rw [mark_same] at h; cases h
    · rw [mark_ne e] at h; exact h
theorem Wf.new {K : PySem.W.Frag} {H : Hp} {tg : TF} {st : Sto} {p : Addr} {o : HO} (w : Wf K H tg st) (hp : H p = none) : Wf K (upd H p o) tg st where
  dom := fun a h => w.dom a (by
    by_cases e : a = p
    · subst e; exact hp
    · rw [upd_ne e] at h; exact h)
  inj := w.inj
  bnd := w.bnd
  sto := fun l ob h => by
    obtain ⟨a, t, r⟩ := w.sto l ob h
    have e : a ≠ p := fun z => by subst z; rw [w.dom a hp] at t; cases t
    exact ⟨a, t, r.mono (Ext.new w.dom hp).le (upd_ne e)⟩
theorem Wf.newT {K : PySem.W.Frag} {H : Hp} {tg : TF} {st : Sto} {p : Addr} {o : HO} (w : Wf K H tg st) (hp : H p = none) : Wf K (upd H p o) (mark tg p (some .tmp)) st where
  dom := fun a h => by
    by_cases e : a = p
    · subst e; rw [upd_same] at h; cases h
    · rw [upd_ne e] at h; rw [mark_ne e]; exact w.dom a h
  inj := fun a b l ha hb => by
    have e : a ≠ p := fun z => by subst z; rw [mark_same] at ha; cases ha
    have e' : b ≠ p := fun z => by subst z; rw [mark_same] at hb; cases hb
    rw [mark_ne e] at ha
    rw [mark_ne e'] at hb
    exact w.inj a b l ha hb
  bnd := fun a l ha => by
    have e : a ≠ p := fun z => by subst z; rw [mark_same] at ha; cases ha
    rw [mark_ne e] at ha
    exact w.bnd a l ha
  sto := fun l ob h => by
    obtain ⟨a, t, r⟩ := w.sto l ob h
    have e : a ≠ p := fun z => by subst z; rw [w.dom a hp] at t; cases t
    exact ⟨a, by rw [mark_ne e]; exact t, r.mono (Ext.newT w.dom hp).le (upd_ne e)⟩
/-- a tmp is let go of: nobody changes it any more -/
theorem Le.free {H : Hp} {tg : TF} {p : Addr} (t : tg p = some .tmp) : Le H tg H (mark tg p none) where
  fz := fun a o h z => ⟨h, by
    by_cases e : a = p
    · subst e; rw [mark_same]
    · rw [mark_ne e]; exact z⟩
  loc := fun a l h => by
    have e : a ≠ p := fun z => by subst z; rw [t] at h; cases h
    rw [mark_ne e]; exact h

/-- a name's content -/
def RSl (K : PySem.W.Frag) (H : Hp) (tg : TF) (i : Nat) (x : Option (Option V)) : Sl → Prop
  | .un => True
  | .v d => ∃ v, x = some (some v) ∧ RV K H tg v d
  | .own o => ∃ a, x = some (some (.ref a)) ∧ tg a = some (.slot i) ∧ RO K H tg a o
def RS' (K : PySem.W.Frag) (H : Hp) (tg : TF) (ρ : Rho) (σ : L2.St) : Prop := ∀ i, RSl K H tg i σ[i]? (get ρ i)
theorem RS'.ext {K : PySem.W.Frag} {H H' : Hp} {tg tg' : TF} {ρ : Rho} {σ : L2.St} (h : RS' K H tg ρ σ) (e : Ext H tg H' tg') : RS' K H' tg' ρ σ := fun i => by
  have q := h i
  cases hs : get ρ i with
  | un => trivial
  | v d =>
    rw [hs] at q
    obtain ⟨v, e1, r⟩ := q
    exact ⟨v, e1, r.mono e.le⟩
  | own o =>
    rw [hs] at q
    obtain ⟨a, e1, t, r⟩ := q
    cases ha : H a with
    | none => exact absurd ha r.some
    | some u =>
      obtain ⟨h1, t1⟩ := e.keep a u ha (by rw [t]; exact fun _ z => nomatch z)
      exact ⟨a, e1, t1.trans t, r.mono e.le (h1.trans ha.symm)⟩
structure StR (K : PySem.W.Frag) (H : Hp) (tg : TF) (st : Sto) (ρ : Rho) (σ : L2.St) : Prop where
  wf : Wf K H tg st
  nt : NoTmp tg
  sl : RS' K H tg ρ σ

/-- a value that is looked at only: a name's own object too -/
def RB (K : PySem.W.Frag) (H : Hp) (tg : TF) (v : V) (d : D) : Prop :=
  RV K H tg v d ∨ ∃ a i o, v = .ref a ∧ tg a = some (.slot i) ∧ RO K H tg a o ∧ d = o.toD
theorem RB.ext {K : PySem.W.Frag} {H H' : Hp} {tg tg' : TF} {v : V} {d : D} (h : RB K H tg v d) (e : Ext H tg H' tg') : RB K H' tg' v d := by
  rcases h with h | ⟨a, i, o, rfl, t, r, rfl⟩
  · exact .inl (h.mono e.le)
  · cases ha : H a with
    | none => exact absurd ha r.some
    | some u =>
      obtain ⟨h1, t1⟩ := e.keep a u ha (by rw [t]; exact fun _ z => nomatch z)
      exact .inr ⟨a, i, o, rfl, t1.trans t, r.mono e.le (h1.trans ha.symm), rfl⟩
/-- a result with its mark: fresh, at a tmp that nothing else is -/
def RX (K : PySem.W.Frag) (H : Hp) (tg : TF) (v : V) (r : D × Bool) : Prop := match r.2 with
  | false => NoTmp tg ∧ RV K H tg v r.1
  | true => ∃ a o, v = .ref a ∧ tg a = some .tmp ∧ (∀ b, tg b = some .tmp → b = a) ∧ RO K H tg a o ∧ r.1 = o.toD

/-! ### the readings -/
abbrev Rel := PySem.W.Frag → Hp → TF → V → D → Prop
abbrev RVt' : Rel := fun K H tg v d => NoTmp tg ∧ RV K H tg v d
abbrev RBt : Rel := fun K H tg v d => NoTmp tg ∧ RB K H tg v d
def tm {α β : Type} (K : PySem.W.Frag) (R : Hp → TF → α → β → Prop) (m : Rho → Sto → Res β) : L2.St → Hp → (α → Hp → Prop) → Prop := fun σ H Q =>
  ∃ tg ρ st d st', StR K H tg st ρ σ ∧ m ρ st = .ok d st' ∧ ∀ tg' v H', Ext H tg H' tg' → Wf K H' tg' st' → R H' tg' v d → Q v H'
/-- a value -/
abbrev tmE (K : PySem.W.Frag) (m : Rho → Sto → Res D) : TE := tm K (RVt' K) m
/-- a value that is looked at -/
abbrev tmB (K : PySem.W.Frag) (m : Rho → Sto → Res D) : TE := tm K (RBt K) m
abbrev tmX (K : PySem.W.Frag) (m : Rho → Sto → Res (D × Bool)) : TE := tm K (RX K) m
abbrev tmA (K : PySem.W.Frag) (m : Rho → Sto → Res (List D)) : TA := tm K (fun H tg vs ds => NoTmp tg ∧ RVs K H tg vs ds) m
abbrev tmT (K : PySem.W.Frag) (m : Rho → Sto → Res D) : TT := tm K (fun _ tg b d => NoTmp tg ∧ d = .bl b) m
abbrev tmTs (K : PySem.W.Frag) (m : Rho → Sto → Res Bool) : TT := tm K (fun _ tg b d => NoTmp tg ∧ d = b) m

theorem _root_.L2.PE.mono {X : Cx} {e : Expr} {t t' : TE} (h : PE X e t) (m : ∀ σ H Q, t' σ H Q → t σ H Q) : PE X e t' := ⟨fun pins s σ H Q I q => h.run pins s σ H Q I (m σ H Q q)⟩
theorem _root_.L2.PT.mono {X : Cx} {e : Expr} {t t' : TT} (h : PT X e t) (m : ∀ σ H Q, t' σ H Q → t σ H Q) : PT X e t' := ⟨fun pins s σ H Q I q => h.run pins s σ H Q I (m σ H Q q)⟩
theorem _root_.L2.PW.mono {X : Cx} {e : Expr} {t t' : TT} (h : PW X e t) (m : ∀ σ H Q, t' σ H Q → t σ H Q) : PW X e t' := ⟨fun wh pins s σ H Q I q => h.run wh pins s σ H Q I (m σ H Q q)⟩
theorem _root_.L2.PTs.mono {X : Cx} {e : List Expr} {t t' : TT} (h : PTs X e t) (m : ∀ σ H Q, t' σ H Q → t σ H Q) : PTs X e t' := ⟨fun pins s σ H Q I q => h.run pins s σ H Q I (m σ H Q q)⟩
theorem _root_.L2.PA.mono {X : Cx} {e : List Expr} {t t' : TA} (h : PA X e t) (m : ∀ σ H Q, t' σ H Q → t σ H Q) : PA X e t' := ⟨fun pos pins s σ H Q I q => h.run pos pins s σ H Q I (m σ H Q q)⟩
theorem _root_.L2.PS.mono {X : Cx} {e : Stmt} {t t' : TS} (h : PS X e t) (m : ∀ D σ H, t' D σ H → t D σ H) : PS X e t' := ⟨fun pins s σ H D I q => h.run pins s σ H D I (m D σ H q)⟩
theorem _root_.L2.PSs.mono {X : Cx} {e : List Stmt} {t t' : TS} (h : PSs X e t) (m : ∀ D σ H, t' D σ H → t D σ H) : PSs X e t' := ⟨fun pins s σ H D I q => h.run pins s σ H D I (m D σ H q)⟩
theorem _root_.L2.PI.mono {X : Cx} {tg e : Expr} {t t' : TI} (h : PI X tg e t) (m : ∀ σ H Q, t' σ H Q → t σ H Q) : PI X tg e t' := ⟨fun pins s σ H Q I q => h.run pins s σ H Q I (m σ H Q q)⟩

section
variable {K : PySem.W.Frag} {α β : Type} {R : Hp → TF → α → β → Prop} {m : Rho → Sto → Res β} {σ : L2.St} {H : Hp} {Q : α → Hp → Prop}
theorem bind_ok {γ : Type} {r : Res β} {f : β → Sto → Res γ} {c : γ} {st : Sto} (h : r.bind f = .ok c st) : ∃ b st1, r = .ok b st1 ∧ f b st1 = .ok c st := by
  cases r with
  | ok b st1 => exact ⟨b, st1, rfl, h⟩
  | bad => cases h
theorem lift_ok {o : Option β} {b : β} {st st' : Sto} (h : lift o st = .ok b st') : o = some b ∧ st' = st := by
  cases o with
  | none => cases h
  | some c => cases h; exact ⟨rfl, rfl⟩
theorem tm.weak {R' : Hp → TF → α → β → Prop} (h : tm K R' m σ H Q) (w : ∀ H tg v d, R H tg v d → R' H tg v d) : tm K R m σ H Q := by
  obtain ⟨tg, ρ, st, d, st', s, e, k⟩ := h
  exact ⟨tg, ρ, st, d, st', s, e, fun tg' v H' x w' r => k tg' v H' x w' (w _ _ _ _ r)⟩
end
end Ev
set_option Elab.async false
set_option linter.all false
set_option maxRecDepth 100000
set_option maxHeartbeats 1000000
/-! Dicts beside the empty one; a dict's values as a list; chains of three. -/
namespace Ev
open PySem PySem.Spec PyProof.Rows L2
section
variable {X : Cx}
def rEmpD (f : Bool → Bool) : R2 := fun x y H Q => ∃ a b ks ls, x = .ref a ∧ y = .ref b ∧ Rd H a (.dK ks) ∧ Rd H b (.dK ls) ∧ (ks = [] ∨ ls = []) ∧ Q (.bl (f (ks.isEmpty && ls.isEmpty))) H
theorem emp_len {α β : Type} {ks : List α} {ls : List β} (h : ks = [] ∨ ls.length = 0) : (ks.length == ls.length && true) = (ks.isEmpty && ls.isEmpty) := by
  rcases h with rfl | h
  · cases ls <;> rfl
  · cases ls with
    | nil => cases ks <;> rfl
    | cons _ _ => cases h
theorem op_eq_emp (hu : X.A.units < cLine) : OpR X (compareOp .Eq) (rEmpD id) := by
  intro pins s σ H x y v u Q I rx ry h
  obtain ⟨a, b, ks, ls, rfl, rfl, ea, eb, hem, q⟩ := h
  obtain rfl : v = Value.ref a := rx
  obtain rfl : u = Value.ref b := ry
  obtain ⟨_, ya, va, ra, da⟩ := (show ObjOk X.prog X.w H s.heap a (.dK ks) from ea.ok I.hok)
  obtain ⟨_, yb, vb, rb, db⟩ := (show ObjOk X.prog X.w H s.heap b (.dK ls) from eb.ok I.hok)
  have la : ks.length = va.length := Paired.length ra
  have lb : ls.length = vb.length := Paired.length rb
  refine PySem.W.keq_eq (knd := mixKind X.prog X.w) (r := true) ya yb da db hu (fun hl => ?_) (fin_bl I q ?_)
  · have : va = [] := by
      rcases hem with rfl | rfl
      · exact List.length_eq_zero_iff.mp la.symm
      · have : vb.length = 0 := lb.symm
        exact List.length_eq_zero_iff.mp (by omega)
    rw [this]
    exact .nil
  · rw [← la, ← lb]
    exact (emp_len (hem.imp id fun h => by rw [h]; rfl)).symm
theorem op_ne_emp (hu : X.A.units < cLine) : OpR X (compareOp .NotEq) (rEmpD (!·)) := by
  intro pins s σ H x y v u Q I rx ry h
  obtain ⟨a, b, ks, ls, rfl, rfl, ea, eb, hem, q⟩ := h
  obtain rfl : v = Value.ref a := rx
  obtain rfl : u = Value.ref b := ry
  obtain ⟨_, ya, va, ra, da⟩ := (show ObjOk X.prog X.w H s.heap a (.dK ks) from ea.ok I.hok)
  obtain ⟨_, yb, vb, rb, db⟩ := (show ObjOk X.prog X.w H s.heap b (.dK ls) from eb.ok I.hok)
  have la : ks.length = va.length := Paired.length ra
  have lb : ls.length = vb.length := Paired.length rb
  refine PySem.W.keq_ne (knd := mixKind X.prog X.w) (r := true) ya yb da db hu (fun hl => ?_) (fin_bl I q ?_)
  · have : va = [] := by
      rcases hem with rfl | rfl
      · exact List.length_eq_zero_iff.mp la.symm
      · have : vb.length = 0 := lb.symm
        exact List.length_eq_zero_iff.mp (by omega)
    rw [this]
    exact .nil
  · rw [← la, ← lb]
    exact congrArg (!·) (emp_len (hem.imp id fun h => by rw [h]; rfl)).symm
/-! ### list(d.values()) -/
theorem vals_of {kvs : List (Key × V)} {vs : List (Key × Value)} (r : KV kvs vs) : Vals (kvs.map (·.2)) (vs.map (·.2)) := by
  unfold KV at r
  induction r with
  | nil => exact .nil
  | cons r t ih => exact .cons r.2 ih
def tVals (te : TE) : TE := fun σ H Q => te σ H fun x H1 => ∃ d kvs, x = .ref d ∧ Rd H1 d (.dK kvs) ∧ (kvs.length ≤ sizeLine → ∀ p, H1 p = none → Q (.ref p) (upd H1 p (.lst (kvs.map (·.2)))))
theorem pe_listVals {te : TE} {e : Expr} {p pos apos cpos : Pos} (hc : X.calm = true) (he : PE X e te) (hg : Gl X "list") (hm : X.mg "list" = none) (hv : bootBuiltins "list" = some (.type "list")) (hbase : attributeBase e "values" X.env (eval e X.env) = eval e X.env) (hline : (apos.endLine == cpos.line) = true)
    (hs : starEach [.Call (.Attribute e "values" apos) [] [] cpos] X.env = (false, eval (.Call (.Attribute e "values" apos) [] [] cpos) X.env) :: starEach [] X.env := by rfl) :
    PE X (.Call (.Name "list" p) [.Call (.Attribute e "values" apos) [] [] cpos] [] pos) (tVals te) := by
  refine ⟨fun pins s σ H Q I hq => ?_⟩
  refine wpAny_Call_Name_kw (ld_blt I hg hm hv ?_)
  refine PyProof.Rows.callWith_type1 ?_ hs rfl
  rw [hs]
  show wpAny _ _ (spliced ((false, eval (.Call (.Attribute e "values" apos) [] [] cpos) X.env) :: backTo pos (starEach [] X.env))) _ _ s
  refine Calls.spliced_cons ?_
  refine wpAny_Call_method (T := "dict") (id := "dict.values") hbase rfl hline F.plainAttrs_dict F.slot_dict_values F.type_dict_values (thn (he.run pins s σ H _ I hq) fun u s1 ⟨x, H1, I1, rx, d, kvs, ex, hd, q⟩ => ?_)
  subst ex
  obtain rfl : u = Value.ref d := rx
  obtain ⟨hz, hs0, vs, kv, hdo⟩ := (show ObjOk X.prog X.w H1 s1.heap d (.dK kvs) from hd.ok I1.hok)
  obtain ⟨ep, hat⟩ := hdo.dictAt
  have lk : kvs.length = vs.length := Paired.length kv
  have I2 : Inv X pins σ H1 { s1 with heap := s1.heap.push { cls := .type "dict_values", data := .fields #[.ref d] } } := I1.kept (t' := s1.toks) fun b ob q => Heap.get?_push_of_some _ q
  refine ⟨hdo.typeIs, hdo.mapOf.noDict, ?_⟩
  show wpAny _ _ (callWith cpos (.builtin "dict.values") [.ref d] [] []) _ X.xe s1
  refine method_meetsIn F.slot_dict_values F.entry_dict_values rfl (PySem.evalArgs_none ⟨rfl, hdo.typeIs, F.args_dict_values_1 _, _, meets_dict_values (mixKind X.prog X.w) d hs0, ⟨vs, hdo⟩, ?_⟩)
  refine Calls.spliced_nil ?_
  refine PySem.W.kdl_call (PySem.W.kdl_values (knd := mixKind X.prog X.w) (kvs := vs) (ep := ep) (d := d)) (I1.ok.hd hc) ⟨⟨_, Heap.get?_push_size _ rfl, rfl, rfl⟩, hat.push _⟩ (by omega) fun h' tk acc c hk hS hacc => ?_
  have hal : acc.toList = vs.map (·.2) := by
    refine List.ext_getElem? fun j => ?_
    rw [List.getElem?_map]
    by_cases hj : j < vs.length
    · have h1 : j < acc.size := by rw [hacc.1]; exact hj
      obtain ⟨k, e⟩ := hacc.2 j (acc[j]) (by simp [h1])
      rw [e, Array.getElem?_toList, Array.getElem?_eq_getElem h1]
      rfl
    · rw [List.getElem?_eq_none (by rw [Array.length_toList, hacc.1]; omega), List.getElem?_eq_none (by omega)]
      rfl
  have new : ObjOk X.prog X.w (upd H1 (s1.heap.push { cls := .type "dict_values", data := .fields #[.ref d] }).objs.size (.lst (kvs.map (·.2)))) h' (s1.heap.push { cls := .type "dict_values", data := .fields #[.ref d] }).objs.size (.lst (kvs.map (·.2))) :=
    ⟨by rw [List.length_map]; exact hz, acc.toList, c, by rw [hal]; exact vals_of kv, by rw [Array.toArray_toList]; exact hS⟩
  exact ⟨.ref _, _, I2.laid (t' := tk) hk (Nat.le_refl _) new, rfl, q hz _ (I2.hok.fresh (Nat.le_refl _))⟩
/-! ### a op1 b op2 c op3 d -/
def tChain3 (r r' r2 : R2) (ta tb tc td : TE) : TE := fun σ H Q => ta σ H fun x H1 => tb σ H1 fun y H2 => r x y H2 fun z H3 => ∃ k, z = .bl k ∧
  (if k = true then tc σ H3 fun w' H4 => r' y w' H4 fun z H5 => ∃ k, z = .bl k ∧ (if k = true then td σ H5 fun w2 H6 => r2 w' w2 H6 Q else Q (.bl false) H5) else Q (.bl false) H3)
theorem pe_chain3 {a b c d : Expr} {pos : Pos} {ta tb tc td : TE} {op op' op2 : CmpOp} {r r' r2 : R2} (ho : OpR X (compareOp op) r) (ho' : OpR X (compareOp op') r') (ho2 : OpR X (compareOp op2) r2) (ha : PE X a ta) (hb : PE X b tb) (hc : PE X c tc) (hd : PE X d td)
    (hm : lastMarks [op, op', op2] [b, c, d] = false) : PE X (.Compare a [op, op', op2] [b, c, d] pos) (tChain3 r r' r2 ta tb tc td) := by
  refine ⟨fun pins s σ H Q I h => ?_⟩
  refine Compare_chain (thn (ha.run pins s σ H _ I h) fun v s1 ⟨x, H1, I1, r1, q1⟩ => chain_link (thn (hb.run pins s1 σ H1 _ I1 q1) fun u s2 ⟨y, H2, I2, r2', q2⟩ =>
    thn (ho pins s2 σ H2 x y v u _ I2 r1 r2' q2) fun d' s3 ⟨z, H3, I3, r3, k, e, q3⟩ => ?_)) hm
  subst e
  cases r3
  refine wpAny_truthy_bool ?_
  cases k with
  | false => exact ite_ff ⟨.bl false, H3, I3, rfl, q3⟩
  | true =>
    refine ite_tt (chain_link (thn (hc.run pins s3 σ H3 _ I3 q3) fun w' s4 ⟨z', H4, I4, r4, q4⟩ => thn (ho' pins s4 σ H4 y z' u w' _ I4 r2' r4 q4) fun d2 s5 ⟨z5, H5, I5, r5, k5, e5, q5⟩ => ?_))
    subst e5
    cases r5
    refine wpAny_truthy_bool ?_
    cases k5 with
    | false => exact ite_ff ⟨.bl false, H5, I5, rfl, q5⟩
    | true => exact ite_tt (chain_last (thn (hd.run pins s5 σ H5 _ I5 q5) fun w6 s6 ⟨z6, H6, I6, r6, q6⟩ => ho2 pins s6 σ H6 z' z6 w' w6 Q I6 r4 r6 q6))
theorem pt_chain3 {a b c d : Expr} {pos : Pos} {ta tb tc td : TE} {op op' op2 : CmpOp} {r r' r2 : R2} (ho : OpR X (compareOp op) r) (ho' : OpR X (compareOp op') r') (ho2 : OpR X (compareOp op2) r2) (ha : PE X a ta) (hb : PE X b tb) (hc : PE X c tc) (hd : PE X d td)
    (hm : lastMarks [op, op', op2] [b, c, d] = false) : PT X (.Compare a [op, op', op2] [b, c, d] pos) (tTest (tChain3 r r' r2 ta tb tc td)) := by
  refine ⟨fun pins s σ H Q I h => ?_⟩
  refine isTrue_chain (thn (ha.run pins s σ H _ I h) fun v s1 ⟨x, H1, I1, r1, q1⟩ => test_link (thn (hb.run pins s1 σ H1 _ I1 q1) fun u s2 ⟨y, H2, I2, r2', q2⟩ =>
    thn (ho pins s2 σ H2 x y v u _ I2 r1 r2' q2) fun d' s3 ⟨z, H3, I3, r3, k, e, q3⟩ => ?_)) hm
  subst e
  cases r3
  refine wpAny_truthy_bool ?_
  cases k with
  | false =>
    obtain ⟨k', e', q'⟩ := q3
    cases e'
    exact ite_ff ⟨H3, I3, q'⟩
  | true =>
    refine ite_tt (test_link (thn (hc.run pins s3 σ H3 _ I3 q3) fun w' s4 ⟨z', H4, I4, r4, q4⟩ => thn (ho' pins s4 σ H4 y z' u w' _ I4 r2' r4 q4) fun d2 s5 ⟨z5, H5, I5, r5, k5, e5, q5⟩ => ?_))
    subst e5
    cases r5
    refine wpAny_truthy_bool ?_
    cases k5 with
    | false =>
      obtain ⟨k', e', q'⟩ := q5
      cases e'
      exact ite_ff ⟨H5, I5, q'⟩
    | true =>
      refine ite_tt (test_last (thn (hd.run pins s5 σ H5 _ I5 q5) fun w6 s6 ⟨z6, H6, I6, r6, q6⟩ => thn (ho2 pins s6 σ H6 z' z6 w' w6 _ I6 r4 r6 q6) fun d7 s7 ⟨z7, H7, I7, r7, k7, e7, q7⟩ => ?_))
      subst e7
      cases r7
      exact wpAny_truthy_bool ⟨H7, I7, q7⟩
end
end Ev
set_option Elab.async false
set_option linter.all false
set_option maxRecDepth 100000
set_option maxHeartbeats 1000000
/-! The operators: what the plain machine says of them, the model does. -/
namespace Ev
open PySem PySem.Spec PyProof.Rows L2

section
variable {K : PySem.W.Frag} {H : Hp} {tg : TF} {v : V} {st : Sto}
theorem RB.int {i : Int} (h : RB K H tg v (.int i)) : v = .int i := by
  rcases h with h | ⟨a, j, o, rfl, t, r, e⟩
  · cases h; rfl
  · cases o <;> cases e
theorem RB.bl {i : Bool} (h : RB K H tg v (.bl i)) : v = .bl i := by
  rcases h with h | ⟨a, j, o, rfl, t, r, e⟩
  · cases h; rfl
  · cases o <;> cases e
theorem RB.str {i : Str} (h : RB K H tg v (.str i)) : v = .str i := by
  rcases h with h | ⟨a, j, o, rfl, t, r, e⟩
  · cases h; rfl
  · cases o <;> cases e
theorem RB.non (h : RB K H tg v .non) : v = .non := by
  rcases h with h | ⟨a, j, o, rfl, t, r, e⟩
  · cases h; rfl
  · cases o <;> cases e
theorem RB.tup {ds : List D} (h : RB K H tg v (.tup ds)) : ∃ a xs, v = .ref a ∧ H a = some (.tup xs) ∧ RVs K H tg xs ds := by
  rcases h with h | ⟨a, j, o, rfl, t, r, e⟩
  · cases h with
    | tup h t r => exact ⟨_, _, rfl, h, r⟩
  · cases o <;> cases e
theorem RB.kt {ds : List D} (h : RB K H tg v (.kt ds)) : ∃ a xs, v = .ref a ∧ SqT K H a xs ∧ RVs K H tg xs ds := by
  rcases h with h | ⟨a, j, o, rfl, t, r, e⟩
  · cases h with
    | kt h r => exact ⟨_, _, rfl, h _, r⟩
  · cases o <;> cases e
theorem RB.lst {ds : List D} (h : RB K H tg v (.lst ds)) : ∃ a xs, v = .ref a ∧ H a = some (.lst xs) ∧ RVs K H tg xs ds := by
  rcases h with h | ⟨a, j, o, rfl, t, r, e⟩
  · cases h with
    | lst h t r => exact ⟨_, _, rfl, h, r⟩
  · cases o with
    | lst ds' => cases e; obtain ⟨xs, h, r⟩ := r; exact ⟨a, xs, rfl, h, r⟩
    | dct k kvs => cases e
theorem RB.dK {kvs : List (D × D)} (h : RB K H tg v (.dct false kvs)) : ∃ a ks, v = .ref a ∧ Rd H a (.dK ks) ∧ RVk K H tg ks kvs := by
  rcases h with h | ⟨a, j, o, rfl, t, r, e⟩
  · cases h with
    | dK h t r => exact ⟨_, _, rfl, h, r⟩
  · cases o with
    | lst ds' => cases e
    | dct k kvs => cases e; obtain ⟨xs, h, r⟩ := r; exact ⟨a, xs, rfl, .inl h, r⟩
theorem RB.dT {kvs : List (D × D)} (h : RB K H tg v (.dct true kvs)) : ∃ a ks, v = .ref a ∧ H a = some (.dT ks) ∧ RVt K H tg ks kvs := by
  rcases h with h | ⟨a, j, o, rfl, t, r, e⟩
  · cases h with
    | dT h t r => exact ⟨_, _, rfl, h, r⟩
  · cases o with
    | lst ds' => cases e
    | dct k kvs => cases e; obtain ⟨xs, h, r⟩ := r; exact ⟨a, xs, rfl, h, r⟩
theorem RB.scr {ns : List Int} (h : RB K H tg v (.scr ns)) : ∃ a, v = .ref a ∧ SqL K H a (ns.map V.int) := by
  rcases h with h | ⟨a, j, o, rfl, t, r, e⟩
  · cases h with
    | scr h => exact ⟨_, rfl, h.elim (fun ⟨o, h, _⟩ => .inl (.inr ⟨o, h⟩)) (fun q => q _)⟩
  · cases o <;> cases e
theorem RB.elems {d : D} {ds : List D} (h : RB K H tg v d) (e : elems d = some ds) : ∃ a xs, v = .ref a ∧ (SqL K H a xs ∨ SqT K H a xs) ∧ RVs K H tg xs ds := by
  cases d with
  | lst ds' => cases e; obtain ⟨a, xs, rfl, h, r⟩ := h.lst; exact ⟨a, xs, rfl, .inl (SqL.of h), r⟩
  | tup ds' => cases e; obtain ⟨a, xs, rfl, h, r⟩ := h.tup; exact ⟨a, xs, rfl, .inr (SqT.of h), r⟩
  | _ => cases e
/-- the end with a new tuple, a new list, a plain value -/
theorem rx_tup {p : Addr} {xs : List V} {ds : List D} {Q : V → Hp → Prop} (w : Wf K H tg st) (nt : NoTmp tg) (r : RVs K H tg xs ds) (hp : H p = none)
    (k : ∀ tg' v H', Ext H tg H' tg' → Wf K H' tg' st → RX K H' tg' v (.tup ds, false) → Q v H') : Q (.ref p) (upd H p (.tup xs)) :=
  k tg _ _ (Ext.new w.dom hp) (w.new hp) ⟨nt, .tup upd_same (w.dom p hp) (r.mono (Ext.new w.dom hp).le)⟩
theorem rx_lst {p : Addr} {xs : List V} {ds : List D} {Q : V → Hp → Prop} (w : Wf K H tg st) (nt : NoTmp tg) (r : RVs K H tg xs ds) (hp : H p = none)
    (k : ∀ tg' v H', Ext H tg H' tg' → Wf K H' tg' st → RX K H' tg' v (.lst ds, true) → Q v H') : Q (.ref p) (upd H p (.lst xs)) :=
  k (mark tg p (some .tmp)) _ _ (Ext.newT w.dom hp) (w.newT hp) ⟨p, .lst ds, rfl, mark_same, fun b hb => by
    by_cases e : b = p
    · exact e
    · rw [mark_ne e] at hb; exact absurd hb (nt b), ⟨xs, upd_same, r.mono (Ext.newT w.dom hp).le⟩, rfl⟩
theorem rx_val {d : D} {Q : V → Hp → Prop} (w : Wf K H tg st) (nt : NoTmp tg) (r : RV K H tg v d)
    (k : ∀ tg' v H', Ext H tg H' tg' → Wf K H' tg' st → RX K H' tg' v (d, false) → Q v H') : Q v H := k tg _ _ (Ext.refl w.dom) w ⟨nt, r⟩
end

theorem op_or {X : Cx} {f : Value → Value → Sem Value} {r r' : R2} (h : OpR X f r) (h' : OpR X f r') : OpR X f (fun x y H Q => r x y H Q ∨ r' x y H Q) := by
  intro pins s σ H x y v u Q I rx ry q
  rcases q with q | q
  · exact h pins s σ H x y v u Q I rx ry q
  · exact h' pins s σ H x y v u Q I rx ry q
theorem op_imp {X : Cx} {f : Value → Value → Sem Value} {r r' : R2} (h : OpR X f r) (m : ∀ x y H Q, r' x y H Q → r x y H Q) : OpR X f r' :=
  fun pins s σ H x y v u Q I rx ry q => h pins s σ H x y v u Q I rx ry (m _ _ _ _ q)

/-! ### tuple * 1 -/
section
theorem tuple_mul1 (l : Addr) (items : Array Value) (n : Nat) (dd : Option Addr) (sl : Array (Option Value)) (u : Tok) :
    Meets (Builtin.«tuple.__mul__» ⟨[.ref l, .int 1 u], []⟩) (fun _ R s => s.heap.get? l = some { cls := .type "tuple", dict := dd, data := .seq items n, slots := sl } ∧ R (.ok (.ret (Value.ref l))) s) :=
  .of_wp fun prog w A R s h => by
    obtain ⟨hp, g, d, tk, os⟩ := s
    obtain ⟨hl, h⟩ := h
    have f1 := AutoSeq1.idx_int
    wp_walk using wpAny_loadPart' hl
    repeat (first
      | (refine wpAny_ite_false (by decide) ?_; wp_walk using wpAny_loadPart' hl)
      | (refine wpAny_ite_true (by simp) ?_; wp_walk using wpAny_loadPart' hl))
    exact ⟨_, rfl, h⟩
end
theorem op_repT1 {X : Cx} : OpR X (binaryOp .Mult) (fun x y H Q => ∃ l xs, x = .ref l ∧ y = .int 1 ∧ SqT X.K H l xs ∧ Q (.ref l) H) := by
  intro pins s σ H x y v u Q I rx ry h
  obtain ⟨l, xs, rfl, rfl, hT, q⟩ := h
  cases rx
  obtain ⟨t, rfl⟩ := ry
  obtain ⟨its, r, ⟨⟨cls, dd, data, sl⟩, ho, hc, n, hd⟩, hs⟩ := I.tuple hT
  simp only at hc hd
  subst hc hd
  exact wpAny_binaryOp_repeat_ref (T := "tuple") (U := "int") (by decide) ⟨_, ho, rfl⟩ (fun s' => typeIs_int s' 1 t) noFill_tuple_mul F.fills_int_mul F.slot_int_rmul repeat_tuple F.slot_int_index.lookup
    (call_meets F.slot_int_rmul (typeIs_int s 1 t) F.entry_int_rmul (F.args_int_rmul_2 _ _) (int_rmul_tuple 1 t l its.toArray n dd sl)
      ⟨ho, rfl, ⟨_, ho, rfl⟩, call_meets F.slot_tuple_mul ⟨_, ho, rfl⟩ F.entry_tuple_mul (F.args_tuple_mul_2 _ _) (tuple_mul1 l its.toArray n dd sl t) ⟨ho, .ref l, H, I, rfl, q⟩⟩)

/-! ### the arithmetic operators -/
def frB (op : Bop) (d : D) : Bool := match op, d with
  | .add, .lst _ => true
  | .mul, .lst _ => true
  | _, _ => false
def rBin (K : PySem.W.Frag) (op : Bop) : R2 := fun x y H Q => ∃ tg st a b d, Wf K H tg st ∧ NoTmp tg ∧ RB K H tg x a ∧ RB K H tg y b ∧ binD op a b = some d ∧
  ∀ tg' v H', Ext H tg H' tg' → Wf K H' tg' st → RX K H' tg' v (d, frB op d) → Q v H'
theorem big_log {i : Int} (h : big i = true) : i.natAbs.log2 < 8000 := PySem.Flt.log2_lt_of (by decide) (of_decide_eq_true h)
theorem if_some {α : Type} {c : Prop} [Decidable c] {a : Option α} {d : α} (h : (if c then a else none) = some d) : c ∧ a = some d := by
  by_cases hc : c
  · rw [if_pos hc] at h; exact ⟨hc, h⟩
  · rw [if_neg hc] at h; cases h
theorem flat_length {α : Type} (n : Nat) (xs : List α) : (List.replicate n xs).flatten.length = n * xs.length := by
  induction n with
  | zero => simp
  | succ n ih => rw [List.replicate_succ, List.flatten_cons, List.length_append, ih, Nat.succ_mul]; omega
theorem line_eq : sizeLine = 16777216 := sizeLine_eq
theorem op_bin {X : Cx} {op : Bop} : OpR X (binaryOp op.op) (rBin X.K op) := by
  cases op with
  | add =>
    refine op_imp (op_or op_add (op_or op_add_str (op_or op_catA op_cat))) fun x y H Q h => ?_
    obtain ⟨tg, st, a, b, d, w, nt, ra, rb, e, k⟩ := h
    cases a with
    | int i =>
      cases b with
      | int j => cases e; exact .inl ⟨i, j, ra.int, rb.int, rx_val w nt (.int _) k⟩
      | _ => cases e
    | str i =>
      cases b with
      | str j =>
        obtain ⟨hc, e⟩ := if_some e
        cases e
        exact .inr (.inl ⟨i, j, ra.str, rb.str, by rw [line_eq]; exact hc, rx_val w nt (.str _) k⟩)
      | _ => cases e
    | tup i =>
      cases b with
      | tup j =>
        obtain ⟨hc, e⟩ := if_some e
        cases e
        obtain ⟨p, xs, rfl, hx, rx⟩ := ra.tup
        obtain ⟨q, ys, rfl, hy, ry⟩ := rb.tup
        refine .inr (.inr (.inl ⟨p, q, xs, ys, rfl, rfl, SqT.of hx, SqT.of hy, by rw [line_eq, rx.length, ry.length]; exact hc, fun z => ?_, fun _ z => ?_, fun _ _ r hr => rx_tup w nt (rx.append ry) hr k⟩))
        · subst z
          cases i with
          | nil => 
            rcases rb with rb | ⟨_, _, o, _, _, _, e⟩
            · exact rx_val w nt rb k
            · cases o <;> cases e
          | cons _ _ => cases rx
        · subst z
          cases j with
          | nil =>
            rw [List.append_nil] at k
            rcases ra with rb | ⟨_, _, o, _, _, _, e⟩
            · exact rx_val w nt rb k
            · cases o <;> cases e
          | cons _ _ => cases ry
      | _ => cases e
    | lst i =>
      cases b with
      | lst j =>
        obtain ⟨hc, e⟩ := if_some e
        cases e
        obtain ⟨p, xs, rfl, hx, rx⟩ := ra.lst
        obtain ⟨q, ys, rfl, hy, ry⟩ := rb.lst
        exact .inr (.inr (.inr ⟨p, q, xs, ys, rfl, rfl, hx, hy, by rw [line_eq, rx.length, ry.length]; exact hc, fun r hr => rx_lst w nt (rx.append ry) hr k⟩))
      | _ => cases e
    | _ => cases b <;> cases e
  | sub =>
    refine op_imp op_sub fun x y H Q h => ?_
    obtain ⟨tg, st, a, b, d, w, nt, ra, rb, e, k⟩ := h
    cases a with
    | int i =>
      cases b with
      | int j => cases e; exact ⟨i, j, ra.int, rb.int, rx_val w nt (.int _) k⟩
      | _ => cases e
    | _ => cases b <;> cases e
  | mul =>
    refine op_imp (op_or (op_or op_mul op_mulW) (op_or (op_or op_repT op_repT1) op_rep)) fun x y H Q h => ?_
    obtain ⟨tg, st, a, b, d, w, nt, ra, rb, e, k⟩ := h
    cases a with
    | int i =>
      cases b with
      | int j =>
        obtain ⟨hc, e⟩ := if_some e
        cases e
        have q := rx_val w nt (.int _) k
        rw [Bool.or_eq_true, Bool.or_eq_true, Bool.and_eq_true] at hc
        rcases hc with (hc | hc) | ⟨h1, h2⟩
        · unfold small64 at hc
          rw [Bool.and_eq_true, decide_eq_true_eq, decide_eq_true_eq] at hc
          exact .inl (.inl ⟨i, j, ra.int, rb.int, .inl hc, q⟩)
        · unfold small64 at hc
          rw [Bool.and_eq_true, decide_eq_true_eq, decide_eq_true_eq] at hc
          exact .inl (.inl ⟨i, j, ra.int, rb.int, .inr hc, q⟩)
        · refine .inl (.inr ⟨i, j, ra.int, rb.int, ?_, q⟩)
          have a1 := big_log h1
          have a2 := big_log h2
          show i.natAbs.log2 + j.natAbs.log2 < 1000000
          omega
      | _ => cases e
    | tup i =>
      cases b with
      | int j =>
        obtain ⟨hc, e⟩ := if_some e
        cases e
        obtain ⟨p, xs, rfl, hx, rx⟩ := ra.tup
        have hj := rb.int
        subst hj
        by_cases h1 : j = 1
        · subst h1
          refine .inr (.inl (.inr ⟨p, xs, rfl, rfl, SqT.of hx, ?_⟩))
          have e1 : (List.replicate (Int.toNat 1) i).flatten = i := by simp
          rw [e1] at k
          rcases ra with rb | ⟨_, _, o, _, _, _, e⟩
          · exact rx_val w nt rb k
          · cases o <;> cases e
        · rcases hc with hc | hc
          · exact absurd hc h1
          · obtain ⟨c1, c2, c3, c4⟩ := hc
            refine .inr (.inl (.inl ⟨p, j, xs, rfl, rfl, SqT.of hx, ?_, c1, c2, by rw [rx.length]; exact c4, fun r hr => rx_tup w nt (rx.rep _) hr k⟩))
            intro z
            subst z
            cases i with
            | nil => cases c3
            | cons _ _ => cases rx
      | _ => cases e
    | lst i =>
      cases b with
      | int j =>
        obtain ⟨hc, e⟩ := if_some e
        cases e
        obtain ⟨p, xs, rfl, hx, rx⟩ := ra.lst
        have hj := rb.int
        subst hj
        obtain ⟨c1, c2, c3⟩ := hc
        exact .inr (.inr ⟨p, j, xs, rfl, rfl, hx, c1, c2, by rw [rx.length, line_eq]; exact c3, fun r hr => rx_lst w nt (rx.rep _) hr k⟩)
      | _ => cases e
    | _ => cases b <;> cases e
  | mod =>
    refine op_imp op_mod fun x y H Q h => ?_
    obtain ⟨tg, st, a, b, d, w, nt, ra, rb, e, k⟩ := h
    cases a with
    | int i =>
      cases b with
      | int j =>
        obtain ⟨hc, e⟩ := if_some e
        cases e; exact ⟨i, j, ra.int, rb.int, hc, rx_val w nt (.int _) k⟩
      | _ => cases e
    | _ => cases b <;> cases e
  | fdiv =>
    refine op_imp op_fdivW fun x y H Q h => ?_
    obtain ⟨tg, st, a, b, d, w, nt, ra, rb, e, k⟩ := h
    cases a with
    | int i =>
      cases b with
      | int j =>
        obtain ⟨hc, e⟩ := if_some e
        cases e; exact ⟨i, j, ra.int, rb.int, ⟨hc.1, Nat.lt_trans (big_log hc.2) (by decide)⟩, rx_val w nt (.int _) k⟩
      | _ => cases e
    | _ => cases b <;> cases e
  | pow =>
    refine op_imp op_pow fun x y H Q h => ?_
    obtain ⟨tg, st, a, b, d, w, nt, ra, rb, e, k⟩ := h
    cases a with
    | int i =>
      cases b with
      | int j =>
        obtain ⟨hc, e⟩ := if_some e
        cases e; exact ⟨i, j, ra.int, rb.int, hc, rx_val w nt (.int _) k⟩
      | _ => cases e
    | _ => cases b <;> cases e
end Ev
set_option Elab.async false
set_option linter.all false
set_option maxRecDepth 100000
set_option maxHeartbeats 1000000
/-! Comparisons. -/
namespace Ev
open PySem PySem.Spec PyProof.Rows L2

mutual
def pd : D → PyData
  | .non => .none
  | .bl b => .bool b
  | .int i => .int i
  | .str s => .str s
  | .tup ds => .tuple (pds ds)
  | .lst ds => .list (pds ds)
  | _ => .none
def pds : List D → List PyData
  | [] => []
  | d :: ds => pd d :: pds ds
end
theorem sh_lay : ∀ (n : Nat) (d : D), d.sh n = true → (pd d).canLay0 = true ∧ (pd d).depth ≤ n := by
  have all : ∀ (n : Nat), (∀ d : D, d.sh n = true → (pd d).canLay0 = true ∧ (pd d).depth ≤ n) → ∀ ds : List D, ds.all (D.sh n) = true → PyData.canLayAll0 (pds ds) = true ∧ PyData.depthAll (pds ds) ≤ n := by
    intro n ih ds
    induction ds with
    | nil => intro _; exact ⟨by simp [pds, PyData.canLayAll0], by simp [pds, PyData.depthAll]⟩
    | cons d ds ih' =>
      intro h
      rw [List.all_cons, Bool.and_eq_true] at h
      obtain ⟨a, b⟩ := ih d h.1
      obtain ⟨c, e⟩ := ih' h.2
      exact ⟨by simp [pds, PyData.canLayAll0, a, c], by simp only [pds, PyData.depthAll]; omega⟩
  have flat : ∀ (n : Nat) (d : D), (∀ ds, d ≠ .tup ds) → (∀ ds, d ≠ .lst ds) → d.sh n = true → (pd d).canLay0 = true ∧ (pd d).depth ≤ n := by
    intro n d h1 h2 h
    cases d with
    | tup ds => exact absurd rfl (h1 ds)
    | lst ds => exact absurd rfl (h2 ds)
    | non => exact ⟨by simp [pd, PyData.canLay0], by simp [pd, PyData.depth]⟩
    | bl b => exact ⟨by simp [pd, PyData.canLay0], by simp [pd, PyData.depth]⟩
    | int b => exact ⟨by simp [pd, PyData.canLay0], by simp [pd, PyData.depth]⟩
    | str s =>
      refine ⟨?_, by simp [pd, PyData.depth]⟩
      have h' : PyData.strOk s = true := by cases n <;> exact h
      simp only [pd, PyData.canLay0]
      exact h'
    | _ => cases n <;> cases h
  intro n
  induction n with
  | zero =>
    intro d h
    cases d with
    | tup ds => cases h
    | lst ds => cases h
    | _ => exact flat 0 _ (fun _ z => nomatch z) (fun _ z => nomatch z) h
  | succ n ih =>
    intro d h
    cases d with
    | tup ds => obtain ⟨a, b⟩ := all n ih ds h; exact ⟨by simp only [pd, PyData.canLay0]; exact a, by simp only [pd, PyData.depth]; omega⟩
    | lst ds => obtain ⟨a, b⟩ := all n ih ds h; exact ⟨by simp only [pd, PyData.canLay0]; exact a, by simp only [pd, PyData.depth]; omega⟩
    | _ => exact flat _ _ (fun _ z => nomatch z) (fun _ z => nomatch z) h
theorem sh_shaped {d : D} (h : d.sh 64 = true) : SeqAt.shaped (pd d) = true := by
  obtain ⟨a, b⟩ := sh_lay _ _ h
  unfold SeqAt.shaped
  rw [a, decide_eq_true b] <;> rfl
theorem sh_le {n m : Nat} (h : n ≤ m) : ∀ {d : D}, d.sh n = true → d.sh m = true := by
  have step : ∀ (n : Nat) (d : D), d.sh n = true → d.sh (n + 1) = true := by
    intro n
    induction n with
    | zero => intro d h; cases d <;> first | exact absurd (show false = true from h) Bool.false_ne_true | exact h
    | succ n ih =>
      intro d h
      cases d with
      | tup ds => exact List.all_eq_true.mpr fun x hx => ih x (List.all_eq_true.mp h x hx)
      | lst ds => exact List.all_eq_true.mpr fun x hx => ih x (List.all_eq_true.mp h x hx)
      | _ => exact h
  intro d hd
  induction h with
  | refl => exact hd
  | step _ ih => exact step _ _ ih
theorem eqv_pd : ∀ (n : Nat) (d e : D), d.sh n = true → e.sh n = true → eqvN (n + 1) d e = PyData.eqv (pd d) (pd e) := by
  have all : ∀ (n : Nat), (∀ d e : D, d.sh n = true → e.sh n = true → eqvN (n + 1) d e = PyData.eqv (pd d) (pd e)) →
      ∀ ds es : List D, ds.all (D.sh n) = true → es.all (D.sh n) = true → all2 (eqvN (n + 1)) ds es = PyData.eqvAll (pds ds) (pds es) := by
    intro n ih ds
    induction ds with
    | nil => intro es _ _; cases es <;> simp [all2, pds, PyData.eqvAll]
    | cons d ds ih' =>
      intro es h1 h2
      cases es with
      | nil => simp [all2, pds, PyData.eqvAll]
      | cons e es =>
        rw [List.all_cons, Bool.and_eq_true] at h1 h2
        simp only [all2, pds, PyData.eqvAll]
        rw [ih d e h1.1 h2.1, ih' es h1.2 h2.2]
  intro n
  induction n with
  | zero =>
    intro d e h1 h2
    cases d <;> first | exact absurd (show false = true from h1) Bool.false_ne_true | (cases e <;> first | exact absurd (show false = true from h2) Bool.false_ne_true | simp [eqvN, pd, PyData.eqv])
  | succ n ih =>
    intro d e h1 h2
    cases d with
    | tup ds =>
      cases e with
      | tup es => simp only [eqvN, pd, PyData.eqv]; exact all n ih ds es h1 h2
      | dct _ _ => cases h2
      | ref _ => cases h2
      | scr _ => cases h2
      | kt _ => cases h2
      | _ => simp [eqvN, pd, PyData.eqv]
    | lst ds =>
      cases e with
      | lst es => simp only [eqvN, pd, PyData.eqv]; exact all n ih ds es h1 h2
      | dct _ _ => cases h2
      | ref _ => cases h2
      | scr _ => cases h2
      | kt _ => cases h2
      | _ => simp [eqvN, pd, PyData.eqv]
    | dct _ _ => cases h1
    | ref _ => cases h1
    | scr _ => cases h1
    | kt _ => cases h1
    | _ =>
      cases e with
      | dct _ _ => cases h2
      | ref _ => cases h2
      | scr _ => cases h2
      | kt _ => cases h2
      | _ => simp [eqvN, pd, PyData.eqv]
theorem eqv_more {m n : Nat} (h : n < m) {d e : D} (h1 : d.sh n = true) (h2 : e.sh n = true) : eqvN m d e = PyData.eqv (pd d) (pd e) := by
  obtain ⟨k, rfl⟩ : ∃ k, m = k + 1 := ⟨m - 1, by omega⟩
  exact eqv_pd k d e (sh_le (by omega) h1) (sh_le (by omega) h2)

section
variable {K : PySem.W.Frag} {H : Hp} {tg : TF}
theorem RV.dp : ∀ (n : Nat) {d : D} {v : V}, RV K H tg v d → d.sh n = true → Dp K H v (pd d) := by
  have all : ∀ (n : Nat), (∀ {d : D} {v : V}, RV K H tg v d → d.sh n = true → Dp K H v (pd d)) → ∀ {ds : List D} {xs : List V}, RVs K H tg xs ds → ds.all (D.sh n) = true → DpAll K H xs (pds ds) := by
    intro n ih ds
    induction ds with
    | nil => intro xs r _; cases r; exact .nil
    | cons d ds ih' =>
      intro xs r h
      cases r with
      | cons r q =>
        rw [List.all_cons, Bool.and_eq_true] at h
        exact .cons (ih r h.1) (ih' q h.2)
  intro n
  induction n with
  | zero =>
    intro d v r h
    cases r <;> first | exact absurd (show false = true from h) Bool.false_ne_true | constructor
  | succ n ih =>
    intro d v r h
    cases r with
    | tup q t r => exact .tup (SqT.of q) (all n ih r h)
    | lst q t r => exact .lst (SqL.of q) (all n ih r h)
    | dK _ _ _ => cases h
    | dT _ _ _ => cases h
    | ref _ => cases h
    | scr _ => cases h
    | kt _ _ => cases h
    | non => exact .non
    | bl b => exact .bl b
    | int b => exact .int b
    | str b => exact .str b
theorem RVs.dp {n : Nat} : ∀ {ds : List D} {xs : List V}, RVs K H tg xs ds → ds.all (D.sh n) = true → DpAll K H xs (pds ds)
  | [], _, r, _ => by cases r; exact .nil
  | d :: ds, _, r, h => by
    cases r with
    | cons r q =>
      rw [List.all_cons, Bool.and_eq_true] at h
      exact .cons (RV.dp n r h.1) (RVs.dp q h.2)
theorem RB.dp {d : D} {v : V} (r : RB K H tg v d) (h : d.sh 64 = true) : Dp K H v (pd d) := by
  rcases r with r | ⟨a, i, o, rfl, t, ro, rfl⟩
  · exact RV.dp 64 r h
  · cases o with
    | lst ds =>
      obtain ⟨xs, hx, r⟩ := ro
      exact .lst (SqL.of hx) (RVs.dp (n := 63) r h)
    | dct k kvs => cases h
end
/-- == -/
def rEqT (K : PySem.W.Frag) : R2 := fun x y H Q => ∃ tg a b c, RB K H tg x a ∧ RB K H tg y b ∧ eqD a b = some c ∧ Q (.bl c) H
def rNeT (K : PySem.W.Frag) : R2 := fun x y H Q => ∃ tg a b c, RB K H tg x a ∧ RB K H tg y b ∧ eqD a b = some c ∧ Q (.bl (!c)) H
theorem eqD_cases {K : PySem.W.Frag} {H : Hp} {tg : TF} {x y : V} {a b : D} {c : Bool} (ra : RB K H tg x a) (rb : RB K H tg y b) (e : eqD a b = some c) :
    (scal x y = true ∧ c = decide (x = y)) ∨ (∃ p q, Dp K H x p ∧ Dp K H y q ∧ SeqAt.shaped p = true ∧ SeqAt.shaped q = true ∧ c = PyData.eqv p q) ∨ (∃ p q ks ls, x = .ref p ∧ y = .ref q ∧ Rd H p (.dK ks) ∧ Rd H q (.dK ls) ∧ (ks = [] ∨ ls = []) ∧ c = (ks.isEmpty && ls.isEmpty)) := by
  have deep : (if a.sh 64 && b.sh 64 then some (eqvN 66 a b) else none) = some c → ∃ p q, Dp K H x p ∧ Dp K H y q ∧ SeqAt.shaped p = true ∧ SeqAt.shaped q = true ∧ c = PyData.eqv p q := fun h => by
    obtain ⟨h1, e1⟩ := if_some h
    rw [Bool.and_eq_true] at h1
    obtain ⟨h2, h3⟩ := h1
    cases e1
    exact ⟨_, _, ra.dp h2, rb.dp h3, sh_shaped h2, sh_shaped h3, eqv_more (n := 64) (by decide) h2 h3⟩
  unfold eqD at e
  split at e
  · cases e; have h1 := ra.int; have h2 := rb.int; subst h1 h2; exact .inl ⟨rfl, dec_int.symm⟩
  · cases e; have h1 := ra.str; have h2 := rb.str; subst h1 h2; exact .inl ⟨rfl, dec_str.symm⟩
  · cases e; have h1 := ra.non; have h2 := rb.non; subst h1 h2; exact .inl ⟨rfl, by simp⟩
  · rename_i u v
    obtain ⟨h1, e1⟩ := if_some e
    obtain ⟨p, ks, rfl, hp, rp⟩ := ra.dK
    obtain ⟨q, ls, rfl, hq, rq⟩ := rb.dK
    have l1 := rp.length
    have l2 := rq.length
    have e1 : c = (u.isEmpty && v.isEmpty) := (Option.some.inj e1).symm
    have i1 : ks.isEmpty = u.isEmpty := by cases ks <;> cases u <;> first | rfl | cases l1
    have i2 : ls.isEmpty = v.isEmpty := by cases ls <;> cases v <;> first | rfl | cases l2
    rw [← i1, ← i2] at h1 e1
    refine .inr (.inr ⟨p, q, ks, ls, rfl, rfl, hp, hq, ?_, e1⟩)
    cases ks with
    | nil => exact .inl rfl
    | cons _ _ => cases ls with
      | nil => exact .inr rfl
      | cons _ _ => cases h1
  · exact .inr (.inl (deep e))
theorem op_eqT {X : Cx} (hu : X.A.units + 64 < cLine) : OpR X (compareOp .Eq) (rEqT X.K) := by
  refine op_imp (op_or op_eq (op_or (op_eqD hu) (op_eq_emp (by omega)))) fun x y H Q ⟨tg, a, b, c, ra, rb, e, q⟩ => ?_
  rcases eqD_cases ra rb e with ⟨h, rfl⟩ | ⟨p, r, h1, h2, h3, h4, rfl⟩ | ⟨p, r, ks, ls, h1, h2, h3, h4, h5, rfl⟩
  · exact .inl ⟨h, q⟩
  · exact .inr (.inl ⟨p, r, h1, h2, h3, h4, q⟩)
  · exact .inr (.inr ⟨p, r, ks, ls, h1, h2, h3, h4, h5, q⟩)
theorem op_neT {X : Cx} (hu : X.A.units + 64 < cLine) : OpR X (compareOp .NotEq) (rNeT X.K) := by
  refine op_imp (op_or op_ne (op_or (op_neD hu) (op_ne_emp (by omega)))) fun x y H Q ⟨tg, a, b, c, ra, rb, e, q⟩ => ?_
  rcases eqD_cases ra rb e with ⟨h, rfl⟩ | ⟨p, r, h1, h2, h3, h4, rfl⟩ | ⟨p, r, ks, ls, h1, h2, h3, h4, h5, rfl⟩
  · exact .inl ⟨h, q⟩
  · exact .inr (.inl ⟨p, r, h1, h2, h3, h4, q⟩)
  · exact .inr (.inr ⟨p, r, ks, ls, h1, h2, h3, h4, h5, q⟩)
end Ev
set_option Elab.async false
set_option linter.all false
set_option maxRecDepth 100000
set_option maxHeartbeats 1000000
/-! Dicts, membership, subscripts, slices, isinstance. -/
namespace Ev
open PySem PySem.Spec PyProof.Rows L2

theorem eqvN_kD (a b : Key) {n : Nat} : eqvN (n + 1) (kD a) (kD b) = decide (a = b) := by
  cases a with
  | inl i =>
    cases b with
    | inl j => simp [kD, eqvN, Bool.beq_eq_decide_eq]
    | inr s => simp [kD, eqvN]
  | inr s =>
    cases b with
    | inl j => simp [kD, eqvN]
    | inr t => simp [kD, eqvN, Bool.beq_eq_decide_eq]
theorem all2_kD {n : Nat} : ∀ (a b : List Key), all2 (eqvN (n + 1)) (a.map kD) (b.map kD) = decide (a = b)
  | [], [] => by simp [all2]
  | [], b :: bs => by simp [all2]
  | a :: as, [] => by simp [all2]
  | a :: as, b :: bs => by
    simp only [List.map_cons, all2]
    rw [eqvN_kD, all2_kD as bs]
    by_cases h : a = b <;> by_cases h' : as = bs <;> simp [h, h']
theorem eqvN_kT (a b : List Key) {n : Nat} : eqvN (n + 2) (kT a) (kT b) = decide (a = b) := by
  show all2 (eqvN (n + 1)) (a.map kD) (b.map kD) = _
  exact all2_kD a b
section
variable {K : PySem.W.Frag} {H : Hp} {tg : TF}
theorem key_k {y : V} {b : D} (r : RB K H tg y b) (h : keyD false b = true) : ∃ k : Key, y = kV k ∧ b = kD k := by
  cases b with
  | int i => exact ⟨.inl i, r.int, rfl⟩
  | str s => exact ⟨.inr s, r.str, rfl⟩
  | tup ds => cases h
  | _ => cases h
theorem keys_of : ∀ {ds : List D} {xs : List V}, RVs K H tg xs ds → (ds.all fun d => match d with | .int _ => true | .str _ => true | _ => false) = true → ∃ ks : List Key, xs = ks.map kV ∧ ds = ks.map kD
  | [], _, r, _ => by cases r; exact ⟨[], rfl, rfl⟩
  | d :: ds, _, r, h => by
    cases r with
    | cons r q =>
      rw [List.all_cons, Bool.and_eq_true] at h
      obtain ⟨ks, rfl, rfl⟩ := keys_of q h.2
      cases d with
      | int i => cases r; exact ⟨.inl i :: ks, rfl, rfl⟩
      | str s => cases r; exact ⟨.inr s :: ks, rfl, rfl⟩
      | _ => cases h.1
theorem key_t {y : V} {b : D} (r : RB K H tg y b) (h : keyD true b = true) : ∃ (ks : List Key) (q : Addr), y = .ref q ∧ H q = some (.tup (ks.map kV)) ∧ b = kT ks := by
  cases b with
  | tup ds =>
    obtain ⟨q, xs, rfl, hq, rs⟩ := r.tup
    obtain ⟨ks, rfl, rfl⟩ := keys_of rs h
    exact ⟨ks, q, rfl, hq, rfl⟩
  | _ => cases h
theorem look_k (k : Key) : ∀ {kvs : List (D × D)} {ks : List (Key × V)}, RVk K H tg ks kvs → (valV ks k = none ∧ dlook (kD k) kvs = none) ∨ ∃ v d, valV ks k = some v ∧ dlook (kD k) kvs = some d ∧ RV K H tg v d
  | [], _, r => by cases r; exact .inl ⟨rfl, rfl⟩
  | _ :: kvs, _, r => by
    cases r with
    | @cons k' x d xs ds r q =>
      unfold dlook
      rw [eqvN_kD]
      by_cases e : k' = k
      · rw [decide_eq_true e, if_pos rfl, valV_pos (p := (k', x)) e]
        exact .inr ⟨_, _, rfl, rfl, r⟩
      · rw [decide_eq_false e, if_neg Bool.false_ne_true, valV_neg (p := (k', x)) e]
        exact look_k k q
theorem look_t (k : List Key) : ∀ {kvs : List (D × D)} {ks : List (List Key × V)}, RVt K H tg ks kvs → (valV ks k = none ∧ dlook (kT k) kvs = none) ∨ ∃ v d, valV ks k = some v ∧ dlook (kT k) kvs = some d ∧ RV K H tg v d
  | [], _, r => by cases r; exact .inl ⟨rfl, rfl⟩
  | _ :: kvs, _, r => by
    cases r with
    | @cons k' x d xs ds r q =>
      unfold dlook
      rw [eqvN_kT]
      by_cases e : k' = k
      · rw [decide_eq_true e, if_pos rfl, valV_pos (p := (k', x)) e]
        exact .inr ⟨_, _, rfl, rfl, r⟩
      · rw [decide_eq_false e, if_neg Bool.false_ne_true, valV_neg (p := (k', x)) e]
        exact look_t k q
theorem RVk.snoc {k : Key} {v : V} {d : D} (h : RV K H tg v d) : ∀ {kvs : List (D × D)} {ks : List (Key × V)}, RVk K H tg ks kvs → RVk K H tg (ks ++ [(k, v)]) (kvs ++ [(kD k, d)])
  | [], _, r => by cases r; exact .cons h .nil
  | _ :: kvs, _, r => by
    cases r with
    | cons r q => exact .cons r (RVk.snoc h q)
theorem RVt.snoc {k : List Key} {v : V} {d : D} (h : RV K H tg v d) : ∀ {kvs : List (D × D)} {ks : List (List Key × V)}, RVt K H tg ks kvs → RVt K H tg (ks ++ [(k, v)]) (kvs ++ [(kT k, d)])
  | [], _, r => by cases r; exact .cons h .nil
  | _ :: kvs, _, r => by
    cases r with
    | cons r q => exact .cons r (RVt.snoc h q)
theorem any_k (k : Key) : ∀ {kvs : List (D × D)} {ks : List (Key × V)}, RVk K H tg ks kvs → (kvs.any fun p => eqvN 62 p.1 (kD k)) = ks.any fun kv => decide (kv.1 = k)
  | [], _, r => by cases r; rfl
  | _ :: kvs, _, r => by
    cases r with
    | cons r q => rw [List.any_cons, List.any_cons, any_k k q, eqvN_kD]
theorem any_t (k : List Key) : ∀ {kvs : List (D × D)} {ks : List (List Key × V)}, RVt K H tg ks kvs → (kvs.any fun p => eqvN 62 p.1 (kT k)) = ks.any fun kv => decide (kv.1 = k)
  | [], _, r => by cases r; rfl
  | _ :: kvs, _, r => by
    cases r with
    | cons r q => rw [List.any_cons, List.any_cons, any_t k q, eqvN_kT]
theorem map_k {k : Key} {v : V} {d : D} (h : RV K H tg v d) : ∀ {kvs : List (D × D)} {ks : List (Key × V)}, RVk K H tg ks kvs →
    RVk K H tg (ks.map fun kv => if kv.1 = k then (kv.1, v) else kv) (kvs.map fun p => if eqvN 62 p.1 (kD k) then (p.1, d) else p)
  | [], _, r => by cases r; exact .nil
  | _ :: kvs, _, r => by
    cases r with
    | @cons k' x d' xs ds r q =>
      rw [List.map_cons, List.map_cons, eqvN_kD]
      by_cases e : k' = k
      · rw [if_pos e, if_pos (decide_eq_true e)]; exact .cons h (map_k h q)
      · rw [if_neg e, if_neg (by rw [decide_eq_false e]; exact Bool.false_ne_true)]; exact .cons r (map_k h q)
theorem map_t {k : List Key} {v : V} {d : D} (h : RV K H tg v d) : ∀ {kvs : List (D × D)} {ks : List (List Key × V)}, RVt K H tg ks kvs →
    RVt K H tg (ks.map fun kv => if kv.1 = k then (kv.1, v) else kv) (kvs.map fun p => if eqvN 62 p.1 (kT k) then (p.1, d) else p)
  | [], _, r => by cases r; exact .nil
  | _ :: kvs, _, r => by
    cases r with
    | @cons k' x d' xs ds r q =>
      rw [List.map_cons, List.map_cons, eqvN_kT]
      by_cases e : k' = k
      · rw [if_pos e, if_pos (decide_eq_true e)]; exact .cons h (map_t h q)
      · rw [if_neg e, if_neg (by rw [decide_eq_false e]; exact Bool.false_ne_true)]; exact .cons r (map_t h q)
theorem put_k {k : Key} {v : V} {d : D} {kvs : List (D × D)} {ks : List (Key × V)} (h : RV K H tg v d) (r : RVk K H tg ks kvs) : RVk K H tg (putK ks k v) (dput (kD k) d kvs) := by
  unfold putK dput
  rw [any_k k r]
  split
  · exact map_k h r
  · exact r.snoc h
theorem put_t {k : List Key} {v : V} {d : D} {kvs : List (D × D)} {ks : List (List Key × V)} (h : RV K H tg v d) (r : RVt K H tg ks kvs) : RVt K H tg (putK ks k v) (dput (kT k) d kvs) := by
  unfold putK dput
  rw [any_t k r]
  split
  · exact map_t h r
  · exact r.snoc h
/-- what a dict holds at a key -/
theorem dget_of {x y : V} {kd : Bool} {kvs : List (D × D)} {b : D} (rx : RB K H tg x (.dct kd kvs)) (ry : RB K H tg y b) (h : keyD kd b = true) :
    ∃ a o, x = .ref a ∧ DGet H a y o ∧ ((o = none ∧ dlook b kvs = none) ∨ ∃ v d, o = some v ∧ dlook b kvs = some d ∧ RV K H tg v d) := by
  cases kd with
  | false =>
    obtain ⟨a, ks, rfl, ha, r⟩ := rx.dK
    obtain ⟨k, rfl, rfl⟩ := key_k ry h
    exact ⟨a, _, rfl, .inl ⟨_, _, ha, rfl, rfl⟩, look_k k r⟩
  | true =>
    obtain ⟨a, ks, rfl, ha, r⟩ := rx.dT
    obtain ⟨k, q, rfl, hq, rfl⟩ := key_t ry h
    exact ⟨a, _, rfl, DGet.t ha hq, look_t k r⟩
end

/-! ### in -/
theorem flat_eqV {K : PySem.W.Frag} {H : Hp} {tg : TF} {x y : V} {d e : D} {n : Nat} (rx : RV K H tg x d) (ry : RV K H tg y e) (fd : flatD d = true) (fe : flatD e = true) : eqV y x = eqvN (n + 1) e d ∧ flatV x = true := by
  cases rx <;> first | exact absurd (show false = true from fd) Bool.false_ne_true | (cases ry <;> first | exact absurd (show false = true from fe) Bool.false_ne_true | exact ⟨rfl, rfl⟩)
theorem flat_any {K : PySem.W.Frag} {H : Hp} {tg : TF} {x : V} {d : D} {n : Nat} (rx : RV K H tg x d) (fd : flatD d = true) : ∀ {ds : List D} {xs : List V}, RVs K H tg xs ds → ds.all flatD = true →
    xs.all flatV = true ∧ inV x xs = (ds.any fun y => eqvN (n + 1) y d)
  | [], _, r, _ => by cases r; exact ⟨rfl, rfl⟩
  | e :: ds, _, r, h => by
    cases r with
    | cons r q =>
      rw [List.all_cons, Bool.and_eq_true] at h
      obtain ⟨h1, h2⟩ := flat_any (n := n) rx fd q h.2
      obtain ⟨e1, _⟩ := flat_eqV (n := n) rx r fd h.1
      obtain ⟨_, e2⟩ := flat_eqV (n := n) r rx h.1 fd
      refine ⟨by rw [List.all_cons, e2, h1] <;> rfl, ?_⟩
      unfold inV at h2 ⊢
      rw [List.any_cons, List.any_cons, h2, e1]
theorem RB.flat {K : PySem.W.Frag} {H : Hp} {tg : TF} {x : V} {d : D} (r : RB K H tg x d) (f : flatD d = true) : RV K H tg x d := by
  rcases r with r | ⟨a, i, o, rfl, t, ro, rfl⟩
  · exact r
  · cases o <;> cases f
theorem any_pds {d : D} (hd : d.sh 60 = true) : ∀ {ds : List D}, ds.all (D.sh 60) = true → (pds ds).any (fun z => PyData.eqv z (pd d)) = ds.any fun y => eqvN 62 y d
  | [], _ => rfl
  | e :: ds, h => by
    rw [List.all_cons, Bool.and_eq_true] at h
    simp only [pds, List.any_cons]
    rw [any_pds hd h.2, eqv_more (n := 60) (m := 62) (by decide) h.1 hd]
def rInT (K : PySem.W.Frag) (neg : Bool) : R2 := fun x y H Q => ∃ tg a b c, RB K H tg x a ∧ RB K H tg y b ∧ inD a b = some c ∧ Q (.bl (if neg then !c else c)) H
theorem in_cases {K : PySem.W.Frag} {H : Hp} {tg : TF} {x y : V} {a b : D} {c : Bool} (ra : RB K H tg x a) (rb : RB K H tg y b) (e : inD a b = some c) :
    (∃ p xs, y = .ref p ∧ (SqL K H p xs ∨ SqT K H p xs) ∧ flatV x = true ∧ xs.all flatV = true ∧ c = inV x xs) ∨
    (∃ d ds, Dp K H x d ∧ Dp K H y (.list ds) ∧ SeqAt.shaped d = true ∧ SeqAt.shaped (.list ds) = true ∧ c = (ds.any fun z => PyData.eqv z d)) ∨
    ∃ p o, y = .ref p ∧ DGet H p x o ∧ c = o.isSome := by
  unfold inD at e
  split at e
  · rename_i k kvs
    obtain ⟨h, e⟩ := if_some e
    cases e
    obtain ⟨p, o, rfl, g, q⟩ := dget_of rb ra h
    refine .inr (.inr ⟨p, o, rfl, g, ?_⟩)
    rcases q with ⟨rfl, q⟩ | ⟨v, d, rfl, q, _⟩ <;> (rw [q]; rfl)
  · rename_i ys
    obtain ⟨h, e⟩ := if_some e
    rw [Bool.and_eq_true] at h
    obtain ⟨h1, h2⟩ := h
    cases e
    obtain ⟨p, xs, rfl, hp, rs⟩ := rb.lst
    refine .inr (.inl ⟨pd a, pds ys, ra.dp (sh_le (by decide) h1), .lst (SqL.of hp) (RVs.dp (n := 60) rs h2), sh_shaped (sh_le (by decide) h1), ?_, (any_pds h1 h2).symm⟩)
    exact sh_shaped (d := .lst ys) (sh_le (n := 61) (by decide) (show ys.all (D.sh 60) = true from h2))
  · rename_i ys
    obtain ⟨h, e⟩ := if_some e
    rw [Bool.and_eq_true] at h
    obtain ⟨h1, h2⟩ := h
    cases e
    obtain ⟨p, xs, rfl, hp, rs⟩ := rb.tup
    obtain ⟨f1, f2⟩ := flat_any (n := 61) (ra.flat h1) h1 rs h2
    exact .inl ⟨p, xs, rfl, .inr (SqT.of hp), (flat_eqV (n := 0) (ra.flat h1) (ra.flat h1) h1 h1).2, f1, f2.symm⟩
  · rename_i ys
    obtain ⟨h, e⟩ := if_some e
    rw [Bool.and_eq_true] at h
    obtain ⟨h1, h2⟩ := h
    cases e
    obtain ⟨p, xs, rfl, hp, rs⟩ := rb.kt
    obtain ⟨f1, f2⟩ := flat_any (n := 61) (ra.flat h1) h1 rs h2
    exact .inl ⟨p, xs, rfl, .inr hp, (flat_eqV (n := 0) (ra.flat h1) (ra.flat h1) h1 h1).2, f1, f2.symm⟩
  · cases e
theorem op_dIn {X : Cx} (hu : X.A.units + 1 < cLine) : OpR X (compareOp .In) (fun x y H Q => ∃ p o, y = .ref p ∧ DGet H p x o ∧ Q (.bl o.isSome) H) := by
  intro pins s σ H x y v u Q I rx ry ⟨p, o, e, g, q⟩
  subst e
  cases ry
  exact d_in hu I g rx fun s3 I3 => ⟨.bl o.isSome, H, I3, rfl, q⟩
theorem op_dNotIn {X : Cx} (hu : X.A.units + 1 < cLine) : OpR X (compareOp .NotIn) (fun x y H Q => ∃ p o, y = .ref p ∧ DGet H p x o ∧ Q (.bl (!o.isSome)) H) := by
  intro pins s σ H x y v u Q I rx ry ⟨p, o, e, g, q⟩
  subst e
  cases ry
  exact d_notIn hu I g rx fun s3 I3 => ⟨.bl (!o.isSome), H, I3, rfl, q⟩
theorem op_inT {X : Cx} (hu : X.A.units + 65 < cLine) : OpR X (compareOp .In) (rInT X.K false) := by
  refine op_imp (op_or op_in_seq (op_or (op_inD hu) (op_dIn (by omega)))) fun x y H Q ⟨tg, a, b, c, ra, rb, e, q⟩ => ?_
  rcases in_cases ra rb e with ⟨p, xs, h1, h2, h3, h4, rfl⟩ | ⟨d, ds, h1, h2, h3, h4, rfl⟩ | ⟨p, o, h1, h2, rfl⟩
  · exact .inl ⟨p, xs, h1, h2, h3, h4, q⟩
  · exact .inr (.inl ⟨d, ds, h1, h2, h3, h4, q⟩)
  · exact .inr (.inr ⟨p, o, h1, h2, q⟩)
theorem op_notInT {X : Cx} (hu : X.A.units + 65 < cLine) : OpR X (compareOp .NotIn) (rInT X.K true) := by
  refine op_imp (op_or op_notIn_seq (op_or (op_notInD hu) (op_dNotIn (by omega)))) fun x y H Q ⟨tg, a, b, c, ra, rb, e, q⟩ => ?_
  rcases in_cases ra rb e with ⟨p, xs, h1, h2, h3, h4, rfl⟩ | ⟨d, ds, h1, h2, h3, h4, rfl⟩ | ⟨p, o, h1, h2, rfl⟩
  · exact .inl ⟨p, xs, h1, h2, h3, h4, q⟩
  · exact .inr (.inl ⟨d, ds, h1, h2, h3, h4, q⟩)
  · exact .inr (.inr ⟨p, o, h1, h2, q⟩)
/-- any comparison -/
def rCmp (K : PySem.W.Frag) (op : Cop) : R2 := fun x y H Q => ∃ tg a b c, RB K H tg x a ∧ RB K H tg y b ∧ cmpD op a b = some c ∧ Q (.bl c) H
theorem map_not {o : Option Bool} {c : Bool} (h : o.map (!·) = some c) : ∃ d, o = some d ∧ c = !d := by
  cases o with
  | none => cases h
  | some d => cases h; exact ⟨d, rfl, rfl⟩
theorem op_cmp {X : Cx} {op : Cop} (hu : X.A.units + 65 < cLine) : OpR X (compareOp op.op) (rCmp X.K op) := by
  cases op with
  | eq => exact op_eqT (by omega)
  | ne =>
    refine op_imp (op_neT (by omega)) fun x y H Q ⟨tg, a, b, c, ra, rb, e, q⟩ => ?_
    obtain ⟨d, h1, rfl⟩ := map_not e
    exact ⟨tg, a, b, d, ra, rb, h1, q⟩
  | isin => exact op_inT hu
  | notin =>
    refine op_imp (op_notInT hu) fun x y H Q ⟨tg, a, b, c, ra, rb, e, q⟩ => ?_
    obtain ⟨d, h1, rfl⟩ := map_not e
    exact ⟨tg, a, b, d, ra, rb, h1, q⟩
  | lt =>
    refine op_imp op_lt fun x y H Q ⟨tg, a, b, c, ra, rb, e, q⟩ => ?_
    cases a with
    | int i => cases b with
      | int j => cases e; exact ⟨i, j, ra.int, rb.int, q⟩
      | _ => cases e
    | _ => cases b <;> cases e
  | le =>
    refine op_imp op_le fun x y H Q ⟨tg, a, b, c, ra, rb, e, q⟩ => ?_
    cases a with
    | int i => cases b with
      | int j => cases e; exact ⟨i, j, ra.int, rb.int, q⟩
      | _ => cases e
    | _ => cases b <;> cases e
  | gt =>
    refine op_imp op_gt fun x y H Q ⟨tg, a, b, c, ra, rb, e, q⟩ => ?_
    cases a with
    | int i => cases b with
      | int j => cases e; exact ⟨i, j, ra.int, rb.int, q⟩
      | _ => cases e
    | _ => cases b <;> cases e
  | ge =>
    refine op_imp op_ge fun x y H Q ⟨tg, a, b, c, ra, rb, e, q⟩ => ?_
    cases a with
    | int i => cases b with
      | int j => cases e; exact ⟨i, j, ra.int, rb.int, q⟩
      | _ => cases e
    | _ => cases b <;> cases e

/-! ### subscripts -/
theorem ix_dict {X : Cx} (hu : X.A.units + 1 < cLine) : IxR X (fun x y H Q => ∃ a v, x = .ref a ∧ DGet H a y (some v) ∧ Q v H) := by
  intro value slice pins s σ H x y v u Q I rx ry ⟨a, z, e, g, q⟩ hs
  subst e
  cases rx
  exact tail_any (dict_typeIs I g) PySem.F.slot_dict_getitem.lookup (d_getItem hu I g ry fun w' s3 I3 rw' => ⟨z, H, I3, rw', q⟩) hs
theorem ixD_atI {α : Type} {xs : List α} {i : Int} {j : Nat} {x : α} (h : ixD xs.length i = some j) (e : xs[j]? = some x) : atI xs i = some x := by
  unfold atI
  have : ixN xs.length i = ixD xs.length i := rfl
  rw [this, h]
  exact e
def rAt (K : PySem.W.Frag) : R2 := fun x y H Q => ∃ tg a b d, RB K H tg x a ∧ RB K H tg y b ∧ atD a b = some d ∧ ∀ v, RV K H tg v d → Q v H
theorem ix_at {X : Cx} (hu : X.A.units + 1 < cLine) : IxR X (rAt X.K) := by
  intro value slice pins s σ H x y v u Q I rx ry ⟨tg, a, b, d, ra, rb, e, q⟩ hs
  have seq : ∀ (ds : List D) (i : Int) (p : Addr) (xs : List V), x = .ref p → (SqL X.K H p xs ∨ SqT X.K H p xs) → RVs X.K H tg xs ds → y = .int i → ((ixD ds.length i).bind fun j => ds[j]?) = some d →
      wpAny (model X.prog X.w) X.A (subscriptTail value slice v u) (EP X pins σ Q) X.xe s := by
    intro ds i p xs ex hp rs ey he
    subst ex ey
    obtain ⟨j, h1, h2⟩ := Option.bind_eq_some_iff.mp he
    obtain ⟨w, hw, rw'⟩ := rs.get h2
    rw [← rs.length] at h1
    have ha := ixD_atI h1 hw
    rcases hp with hp | hp
    · exact ix_list value slice pins s σ H _ _ v u Q I rx ry ⟨p, xs, i, w, rfl, rfl, hp, ha, q w rw'⟩ hs
    · exact ix_tup value slice pins s σ H _ _ v u Q I rx ry ⟨p, xs, i, w, rfl, rfl, hp, ha, q w rw'⟩ hs
  cases a with
  | scr ns =>
    cases b with
    | int i =>
      obtain ⟨p, rfl, hp⟩ := ra.scr
      have e' : ((ixD ns.length i).bind fun j => (ns[j]?).map D.int) = some d := e
      refine seq (ns.map D.int) i p _ rfl (.inl hp) (RVs.of_ints ns) rb.int ?_
      rw [List.length_map]
      simpa [List.getElem?_map] using e'
    | _ => cases e
  | dct k kvs =>
    obtain ⟨h, e⟩ := if_some e
    obtain ⟨p, o, rfl, g, r⟩ := dget_of ra rb h
    rcases r with ⟨_, r⟩ | ⟨w, d', rfl, r, rw'⟩
    · rw [e] at r; cases r
    · rw [e] at r; cases r
      exact ix_dict hu value slice pins s σ H _ _ v u Q I rx ry ⟨p, w, rfl, g, q w rw'⟩ hs
  | lst ds =>
    cases b with
    | int i =>
      obtain ⟨p, xs, rfl, hp, rs⟩ := ra.lst
      exact seq ds i p xs rfl (.inl (SqL.of hp)) rs rb.int e
    | _ => cases e
  | tup ds =>
    cases b with
    | int i =>
      obtain ⟨p, xs, rfl, hp, rs⟩ := ra.tup
      exact seq ds i p xs rfl (.inr (SqT.of hp)) rs rb.int e
    | _ => cases e
  | _ => cases b <;> cases e
/-- slices -/
theorem clip_sIx (n d : Nat) (o : Option Int) : clipD n d o = HT.sIx n d o := by
  cases o with
  | none => rfl
  | some v =>
    have h := HT.clip_eq v n d
    have h2 : clipD n d (some v) = (if v < 0 then max (v + (n : Int)) 0 else min v (n : Int)).toNat := by
      show (if v < 0 then (max (v + n) 0).toNat else (min v n).toNat) = _
      split <;> rfl
    rw [h2, h]
    simp
def frS (d : D) : Bool := match d with | .lst _ => true | _ => false
def rSl (K : PySem.W.Frag) : V → Option Int → Option Int → Hp → VK → Prop := fun x lo hi H Q => ∃ tg st a d, Wf K H tg st ∧ NoTmp tg ∧ RB K H tg x a ∧ slD a lo hi = some d ∧
  ∀ tg' v H', Ext H tg H' tg' → Wf K H' tg' st → RX K H' tg' v (d, frS d) → Q v H'
theorem sl_any {X : Cx} : SlR X (rSl X.K) := by
  intro pins s σ H x v vl vu lo hi sl Q I rx hs pl pu ⟨tg, st, a, d, w, nt, ra, e, k⟩
  cases a with
  | tup ds =>
    cases e
    obtain ⟨p, xs, rfl, hp, rs⟩ := ra.tup
    have hc : cutV xs lo hi = cutD xs lo hi := by unfold cutV cutD; rw [clip_sIx, clip_sIx]
    refine sl_tupA pins s σ H _ v vl vu lo hi sl Q I rx hs pl pu ⟨p, xs, rfl, SqT.of hp, fun ⟨h1, h2⟩ => ?_, fun _ q hq => ?_⟩
    · have e1 : cutD ds lo hi = ds := by
        unfold cutD
        rw [clip_sIx, clip_sIx, ← rs.length, h1, h2]
        simp [rs.length]
      rw [e1] at k
      rcases ra with ra | ⟨_, _, o, _, _, _, e⟩
      · exact rx_val w nt ra k
      · cases o <;> cases e
    · rw [hc]
      refine rx_tup w nt ?_ hq k
      unfold cutD
      rw [rs.length]
      exact (rs.drop _).take _
  | lst ds =>
    cases e
    obtain ⟨p, xs, rfl, hp, rs⟩ := ra.lst
    have hc : cutV xs lo hi = cutD xs lo hi := by unfold cutV cutD; rw [clip_sIx, clip_sIx]
    refine sl_list pins s σ H _ v vl vu lo hi sl Q I rx hs pl pu ⟨p, xs, rfl, SqL.of hp, fun q hq => ?_⟩
    rw [hc]
    refine rx_lst w nt ?_ hq k
    unfold cutD
    rw [rs.length]
    exact (rs.drop _).take _
  | _ => cases e

/-! ### isinstance -/
def Ty.name : Ty → String
  | .int => "int" | .bool => "bool" | .str => "str" | .tuple => "tuple"
def rIs (K : PySem.W.Frag) (t : Ty) : List V → Hp → VK → Prop := fun vs H Q => ∃ tg x a c, vs = [x, .ty t.name] ∧ RB K H tg x a ∧ isD t a = some c ∧ Q (.bl c) H
theorem call_is {X : Cx} {t : Ty} : CallR X (.builtin "isinstance") (rIs X.K t) := by
  intro pins s σ H xs us Q I r ⟨tg, x, a, c, e, ra, h, q⟩
  subst e
  have go : ∀ (T : String), TyOf X.K H x (.type T) → kitB T t.name = some c → wpAny (model X.prog X.w) X.A (call (.builtin "isinstance") us) (EP X pins σ Q) X.xe s := fun T ty k =>
    call_isi pins s σ H _ us Q I r ⟨x, .ty t.name, .type T, .type t.name, c, rfl, .ty _, .base ty, kit_ty k, q⟩
  cases a with
  | non => have := ra.non; subst this; exact go "NoneType" .non (by cases t <;> (cases h; first | (show kitB _ _ = some true; decide +kernel) | (show kitB _ _ = some false; decide +kernel)))
  | bl b => have := ra.bl; subst this; exact go "bool" (.bl _) (by cases t <;> (cases h; first | (show kitB _ _ = some true; decide +kernel) | (show kitB _ _ = some false; decide +kernel)))
  | int b => have := ra.int; subst this; exact go "int" (.int _) (by cases t <;> (cases h; first | (show kitB _ _ = some true; decide +kernel) | (show kitB _ _ = some false; decide +kernel)))
  | str b => have := ra.str; subst this; exact go "str" (.str _) (by cases t <;> (cases h; first | (show kitB _ _ = some true; decide +kernel) | (show kitB _ _ = some false; decide +kernel)))
  | tup ds => obtain ⟨p, xs, rfl, hp, _⟩ := ra.tup; exact go "tuple" (.tup hp) (by cases t <;> (cases h; first | (show kitB _ _ = some true; decide +kernel) | (show kitB _ _ = some false; decide +kernel)))
  | lst ds => obtain ⟨p, xs, rfl, hp, _⟩ := ra.lst; exact go "list" (.lst hp) (by cases t <;> (cases h; first | (show kitB _ _ = some true; decide +kernel) | (show kitB _ _ = some false; decide +kernel)))
  | dct k kvs =>
    cases t <;> cases h
  | ref l => cases t <;> cases h
  | scr l => cases t <;> cases h
  | kt l => cases t <;> cases h
end Ev
set_option Elab.async false
set_option linter.all false
set_option maxRecDepth 100000
set_option maxHeartbeats 1000000
/-! Built-in functions. -/
namespace Ev
open PySem PySem.Spec PyProof.Rows L2

theorem cr_or {X : Cx} {f : Value} {r r' : List V → Hp → VK → Prop} (h : CallR X f r) (h' : CallR X f r') : CallR X f (fun xs H Q => r xs H Q ∨ r' xs H Q) := h.or h'
theorem cr_imp {X : Cx} {f : Value} {r r' : List V → Hp → VK → Prop} (h : CallR X f r) (m : ∀ xs H Q, r' xs H Q → r xs H Q) : CallR X f r' :=
  fun pins s σ H xs us Q I rx q => h pins s σ H xs us Q I rx (m _ _ _ q)

/-! ### tuples given to sum and sorted -/
section
variable {prog : Program} {w : World} {A : Around} {E : Value → Shared → Prop} {s : Shared} {l : Addr} {its : List Value} {ns : List Int} {Q : Value → Shared → Prop}
theorem sum_tup (hh : A.handled = none) (hl : s.heap.IsTuple l its.toArray) (hi : IntsAre its ns)
    (h : ∀ h' tk t', (∀ b o, s.heap.get? b = some o → h'.get? b = some o) → Q (.int ns.sum t') { s with heap := h', toks := tk }) : wpAny (model prog w) A (call (.builtin "sum") [.ref l]) Q E s := by
  obtain ⟨xs, e⟩ := hi.allInts.items
  have hn : numsOf (intItems xs).toList = ns := by rw [← e]; exact hi.numsOf
  rw [nums_intItems] at hn
  rw [e] at hl
  have hlt : l < s.heap.objs.size := by obtain ⟨_, q, _⟩ := hl; exact Heap.lt_size q
  refine call_sum_walkG (wpAny_pyIter_tuple hl ?_)
  have hl1 : (s.heap.push { cls := .type "tuple_iterator", data := .fields #[.ref l, .int 0 0] }).IsTuple l (intItems xs) := hl.push _
  refine ⟨_, _, _, _, _, _, numAt xs, rfl, Walks.tuple (A := A.in1) hh s.heap.objs.size l (Nat.ne_of_lt hlt) (intItems xs), ⟨⟨_, Heap.get?_push_size _ rfl, rfl, rfl⟩, hl1⟩, fun b hb => ?_, (fun _ _ => intItems_at), fun h' tk t' hk => ?_⟩
  · show b < (s.heap.push _).objs.size
    rw [Heap.size_push]
    rcases List.mem_cons.mp hb with z | z
    · rw [z]; exact Nat.lt_succ_self _
    · rw [List.mem_singleton.mp z]; exact Nat.lt_succ_of_lt hlt
  · have := h h' tk t' fun b o e => hk b o (fun z => by
      rw [List.mem_singleton] at z
      exact absurd (Heap.lt_size e) (by rw [z]; exact Nat.lt_irrefl _)) (Heap.get?_push_of_some _ e)
    rw [preSum_eq, List.take_of_length_le (by simp [intItems]), hn]
    exact this
theorem collect_tup {vs : List Value} {Q : List Value → Shared → Prop} (hl : s.heap.IsTuple l vs.toArray)
    (h : Q vs { s with heap := (s.heap.push (seqObj "list" #[] 0)).update s.heap.objs.size (Obj.mapSeq (· ++ vs.toArray)) }) (hsz : vs.length ≤ sizeLine) :
    wpAny (model prog w) A (collect (.ref l)) Q E s := by
  obtain ⟨o, ho, hc, n, hd⟩ := id hl
  unfold collect
  refine wpAny_bind (wpAny_runValue (codeAny_builtin entry_proto_collect' ?_))
  show wpAny _ _ (do again (.builtin "list.__iadd__" ⟨[← newList [], .ref l], []⟩)) _ _ s
  refine wpAny_bind (wpAny_newList (wpAny_pure ⟨Code.quiet_builtin _ (by decide +kernel), codeAny_builtin entry_list_iadd' ?_⟩))
  show wpAny _ _ (Builtin.List.listExtendWith (.ref s.heap.objs.size) (.ref l) (.ref s.heap.objs.size)) _ _ { s with heap := s.heap.push (seqObj "list" #[] 0) }
  unfold Builtin.List.listExtendWith
  have ho' : (s.heap.push (seqObj "list" #[] 0)).get? l = some o := Heap.get?_push_of_some _ ho
  refine wpAny_bind (wpAny_typeOf (T := "tuple") ⟨o, ho', hc⟩ ?_)
  have ht : (Value.type "tuple" == Value.type "tuple") = true := by rfl
  rw [if_pos (by rw [ht]; simp)]
  refine wpAny_bind (listItems_at ho' hd ?_)
  refine wpAny_bind (listItems_at (xs := #[]) (n := 0) (Heap.get?_push_size _ rfl) rfl ?_)
  rw [if_neg (by simp)]
  refine wpAny_bind (listUpdate_at (xs := #[]) (n := 0) (Heap.get?_push_size _ rfl) rfl ?_ (Nat.zero_le _) (by show (#[] ++ vs.toArray).size ≤ sizeLine + 1; simp only [Array.size_append, List.size_toArray, List.length_nil]; omega))
  refine wpAny_pure ?_
  show wpAny (model prog w) A (do
      let o ← load s.heap.objs.size
      match o.data with
      | .seq xs _ => pure xs.toList
      | _ => unsupported "internal:collect") Q E { s with heap := (s.heap.push (seqObj "list" #[] 0)).update s.heap.objs.size (Obj.mapSeq (· ++ vs.toArray)) }
  refine wpAny_bind (wpAny_load (get?_update_seq (Heap.get?_push_size _ rfl) _) ?_)
  show wpAny _ _ (pure ((#[] : Array Value) ++ vs.toArray).toList) Q E _
  rw [show ((#[] : Array Value) ++ vs.toArray).toList = vs by simp]
  exact wpAny_pure h
theorem sorted_tupO {vs : List Value} {ltv : Value → Value → Bool} (O : SrtO.Swo ltv) (hl : s.heap.IsTuple l vs.toArray) (hz : vs.length ≤ sizeLine)
    (hS : 2 ≤ vs.length → ∀ (h₁ : Heap) (a : Addr), h₁.get? a = some (seqObj "list" vs.toArray 0) → (∀ b o, s.heap.get? b = some o → b ≠ a ∧ h₁.get? b = some o) → SrtO.SortableO prog w A.in1.in1 { s with heap := h₁ } a vs ltv)
    (h : ∀ out : List Value, SrtO.Srtd ltv out → SrtO.Stb ltv out vs → Q (.ref (s.heap.objs.size + 1)) { s with heap := sortedAll s.heap vs out.toArray }) :
    wpAny (model prog w) A (call (.builtin "sorted") [.ref l]) Q E s := by
  refine Calls.call_function_entry kind_sorted plain_sorted entry_sorted (args_sorted1 _) ?_
  unfold Builtin.«sorted»
  refine wpAny_bind (m := checkCount "sorted" 1 1 _) (wpAny_pure ?_)
  refine wpAny_bind (collect_tup hl ?_ hz)
  refine wpAny_bind (wpAny_newList ?_ hz)
  have hsz : ((s.heap.push (seqObj "list" #[] 0)).update s.heap.objs.size (Obj.mapSeq (· ++ vs.toArray))).objs.size = s.heap.objs.size + 1 := by
    rw [Heap.size_update, size_push']
  have hoL : (((s.heap.push (seqObj "list" #[] 0)).update s.heap.objs.size (Obj.mapSeq (· ++ vs.toArray))).push (seqObj "list" vs.toArray 0)).get? (s.heap.objs.size + 1) = some (seqObj "list" vs.toArray 0) := by
    rw [← hsz]; exact Heap.get?_push_size _ rfl
  have keep : ∀ b o, s.heap.get? b = some o → b ≠ s.heap.objs.size + 1 ∧ (((s.heap.push (seqObj "list" #[] 0)).update s.heap.objs.size (Obj.mapSeq (· ++ vs.toArray))).push (seqObj "list" vs.toArray 0)).get? b = some o := fun b o q => by
    have hlt : b < s.heap.objs.size := Heap.lt_size q
    refine ⟨Nat.ne_of_lt (Nat.lt_succ_of_lt hlt), Heap.get?_push_of_some _ ?_⟩
    rw [Heap.get?_update_ne _ _ _ _ (Nat.ne_of_lt hlt)]
    exact Heap.get?_push_of_some _ q
  show wpAny _ _ _ _ _ { s with heap := ((s.heap.push (seqObj "list" #[] 0)).update s.heap.objs.size (Obj.mapSeq (· ++ vs.toArray))).push (seqObj "list" vs.toArray 0) }
  rw [hsz]
  refine wpAny_bind (wpAny_holding (wpAny_call_entry slot_list_sort ⟨_, hoL, rfl⟩ entry_list_sort (SrtO.list_sort_ord O hoL hz (fun h2 => hS h2 _ _ hoL keep) fun out hs hb => ⟨_, rfl, ?_⟩) (args_list_sort _)))
  exact wpAny_pure ⟨_, rfl, h out hs hb⟩
end
/-- two ascending arrangements of the same numbers are one -/
theorem ins_perm (i : Int) : ∀ xs : List Int, (ins i xs).Perm (i :: xs)
  | [] => .refl _
  | j :: r => by
    unfold ins
    split
    · exact .refl _
    · exact (List.Perm.cons j (ins_perm i r)).trans (List.Perm.swap i j r)
theorem isort_perm : ∀ xs : List Int, (isort xs).Perm xs
  | [] => .refl _
  | i :: r => (ins_perm i _).trans (List.Perm.cons i (isort_perm r))
theorem ins_asc {i : Int} : ∀ {xs : List Int}, xs.Pairwise (· ≤ ·) → (ins i xs).Pairwise (· ≤ ·)
  | [], _ => List.pairwise_singleton _ _
  | j :: r, h => by
    unfold ins
    rw [List.pairwise_cons] at h
    split
    · rename_i hij
      refine List.pairwise_cons.mpr ⟨fun x hx => ?_, List.pairwise_cons.mpr h⟩
      rcases List.mem_cons.mp hx with e | hx
      · rw [e]; exact hij
      · exact Int.le_trans hij (h.1 x hx)
    · rename_i hij
      refine List.pairwise_cons.mpr ⟨fun x hx => ?_, ins_asc h.2⟩
      rcases List.mem_cons.mp ((ins_perm i r).mem_iff.mp hx) with e | hx
      · rw [e]; omega
      · exact h.1 x hx
theorem isort_asc : ∀ xs : List Int, (isort xs).Pairwise (· ≤ ·)
  | [] => List.Pairwise.nil
  | i :: r => ins_asc (isort_asc r)
theorem asc_unique {xs ys : List Int} (h : xs.Perm ys) (hx : xs.Pairwise (· ≤ ·)) (hy : ys.Pairwise (· ≤ ·)) : xs = ys :=
  h.eq_of_pairwise (fun a b _ _ h1 h2 => Int.le_antisymm h1 h2) hx hy
theorem mem_inS (i k : Int) : ∀ xs : List Int, k ∈ inS i xs ↔ k = i ∨ k ∈ xs
  | [] => by simp [inS]
  | j :: r => by
    unfold inS
    split
    · simp
    · split
      · rename_i h; subst h; simp
      · rw [List.mem_cons, mem_inS i k r, List.mem_cons]
        constructor
        · rintro (h | h | h)
          · exact .inr (.inl h)
          · exact .inl h
          · exact .inr (.inr h)
        · rintro (h | h | h)
          · exact .inr (.inl h)
          · exact .inl h
          · exact .inr (.inr h)
theorem mem_ssort (k : Int) : ∀ xs : List Int, k ∈ ssort xs ↔ k ∈ xs
  | [] => by simp [ssort]
  | i :: r => by
    show k ∈ inS i (ssort r) ↔ _
    rw [mem_inS, mem_ssort k r, List.mem_cons]
theorem inS_asc {i : Int} : ∀ {xs : List Int}, xs.Pairwise (· < ·) → (inS i xs).Pairwise (· < ·)
  | [], _ => List.pairwise_singleton _ _
  | j :: r, h => by
    unfold inS
    rw [List.pairwise_cons] at h
    split
    · rename_i hij
      refine List.pairwise_cons.mpr ⟨fun x hx => ?_, List.pairwise_cons.mpr h⟩
      rcases List.mem_cons.mp hx with e | hx
      · rw [e]; exact hij
      · exact Int.lt_trans hij (h.1 x hx)
    · split
      · exact List.pairwise_cons.mpr h
      · rename_i h1 h2
        refine List.pairwise_cons.mpr ⟨fun x hx => ?_, inS_asc h.2⟩
        rcases (mem_inS i x r).mp hx with e | hx
        · rw [e]; omega
        · exact h.1 x hx
theorem ssort_asc : ∀ xs : List Int, (ssort xs).Pairwise (· < ·)
  | [] => List.Pairwise.nil
  | i :: r => inS_asc (ssort_asc r)
theorem sasc_unique : ∀ {xs ys : List Int}, xs.Pairwise (· < ·) → ys.Pairwise (· < ·) → (∀ k, k ∈ xs ↔ k ∈ ys) → xs = ys
  | [], [], _, _, _ => rfl
  | [], y :: ys, _, _, h => absurd ((h y).mpr List.mem_cons_self) (by simp)
  | x :: xs, [], _, _, h => absurd ((h x).mp List.mem_cons_self) (by simp)
  | x :: xs, y :: ys, hx, hy, h => by
    rw [List.pairwise_cons] at hx hy
    have e : x = y := by
      rcases List.mem_cons.mp ((h x).mp List.mem_cons_self) with e | m
      · exact e
      · rcases List.mem_cons.mp ((h y).mpr List.mem_cons_self) with e | m'
        · exact e.symm
        · have a := hy.1 x m
          have b := hx.1 y m'
          omega
    subst e
    rw [sasc_unique hx.2 hy.2 fun k => ?_]
    have q := h k
    rw [List.mem_cons, List.mem_cons] at q
    constructor
    · intro m
      rcases q.mp (.inr m) with e | m'
      · have := hx.1 k m; omega
      · exact m'
    · intro m
      rcases q.mpr (.inr m) with e | m'
      · have := hy.1 k m; omega
      · exact m'
theorem maxL_ok : ∀ {ns : List Int} {m : Int}, maxL ns = some m → m ∈ ns ∧ ∀ y ∈ ns, y ≤ m
  | [], _, h => by cases h
  | [i], _, h => by cases h; exact ⟨by simp, by simp⟩
  | i :: j :: r, m, h => by
    have h' : ((maxL (j :: r)).map fun m => if i < m then m else i) = some m := h
    cases e : maxL (j :: r) with
    | none => rw [e] at h'; cases h'
    | some k =>
      rw [e] at h'
      cases h'
      obtain ⟨a, b⟩ := maxL_ok e
      show (if i < k then k else i) ∈ i :: j :: r ∧ ∀ y ∈ i :: j :: r, y ≤ (if i < k then k else i)
      constructor
      · split
        · exact List.mem_cons_of_mem _ a
        · exact List.mem_cons_self
      · intro y hy
        rcases List.mem_cons.mp hy with e | hy
        · split <;> omega
        · have := b y hy; split <;> omega
theorem minL_ok : ∀ {ns : List Int} {m : Int}, minL ns = some m → m ∈ ns ∧ ∀ y ∈ ns, m ≤ y
  | [], _, h => by cases h
  | [i], _, h => by cases h; exact ⟨by simp, by simp⟩
  | i :: j :: r, m, h => by
    have h' : ((minL (j :: r)).map fun m => if m < i then m else i) = some m := h
    cases e : minL (j :: r) with
    | none => rw [e] at h'; cases h'
    | some k =>
      rw [e] at h'
      cases h'
      obtain ⟨a, b⟩ := minL_ok e
      show (if k < i then k else i) ∈ i :: j :: r ∧ ∀ y ∈ i :: j :: r, (if k < i then k else i) ≤ y
      constructor
      · split
        · exact List.mem_cons_of_mem _ a
        · exact List.mem_cons_self
      · intro y hy
        rcases List.mem_cons.mp hy with e | hy
        · split <;> omega
        · have := b y hy; split <;> omega

/-! ### the calls -/
theorem cr_sumT {X : Cx} (hc : X.calm = true) : CallR X (.builtin "sum") (fun vs H Q => ∃ (a : Addr) (ns : List Int), vs = [V.ref a] ∧ SqT X.K H a (ns.map V.int) ∧ Q (.int ns.sum) H) := by
  intro pins s σ H vs us Q I r ⟨a, ns, e, hs, q⟩
  subst e
  obtain ⟨its, rv, hl, hz⟩ := I.tuple hs
  rw [Vals.ref1 r]
  exact sum_tup (I.ok.hd hc) hl rv.ints fun h1 tk t1 k => ⟨V.int ns.sum, H, I.kept k, ⟨_, rfl⟩, q⟩
theorem cr_sortedT {X : Cx} : CallR X (.builtin "sorted") (fun vs H Q => ∃ (a : Addr) (ns : List Int), vs = [V.ref a] ∧ SqT X.K H a (ns.map V.int) ∧
    ∀ (ns' : List Int) (p : Addr), ns'.Perm ns → ns'.Pairwise (· ≤ ·) → H p = none → Q (.ref p) (upd H p (.lst (ns'.map V.int)))) := by
  intro pins s σ H vs us Q I r ⟨a, ns, e, hs, q⟩
  subst e
  obtain ⟨its, rv, hl, hz⟩ := I.tuple hs
  rw [Vals.ref1 r]
  have hi := rv.ints
  refine sorted_tupO SrtO.swo_int hl (by rw [← rv.length]; exact hz) (fun h2 h₁ a' _ _ => SrtO.ints_sortable hi h2) fun out h1 h2 => ?_
  obtain ⟨k1, k2, k3⟩ := SrtO.ints_out hi h1 h2
  obtain ⟨ep, he'⟩ := PyProof.Rows.sortedAll_at s.heap its out.toArray
  have hlen : ((out.map SrtO.iv).map V.int).length ≤ sizeLine := by
    rw [List.length_map, k2.length_eq]
    rw [List.length_map] at hz
    exact hz
  exact ⟨.ref _, upd H (s.heap.objs.size + 1) (.lst ((out.map SrtO.iv).map V.int)), I.laid (t' := s.toks) (fun _ _ => PyProof.Rows.sortedAll_old) (Nat.le_succ _) ⟨hlen, out, ep, vals_of_ints k1, he'⟩, rfl, q _ _ k2 k3 (I.hok.fresh (Nat.le_succ _))⟩
end Ev
set_option Elab.async false
set_option linter.all false
set_option maxRecDepth 100000
/-! set(a list of ints): the library's walk of set(a tuple of ints), turned to lists. -/
namespace Ev
open PySem PySem.Spec PyProof.Rows L2
section
variable {P : Program} {w : World} {A : Around} {E : Value → Shared → Prop} {s : Shared}
set_option maxRecDepth 100000 in
set_option maxHeartbeats 3200000 in
theorem call_set_lstI {l : Addr} {items : Array Value} (ns : List Int) {Q : Value → Shared → Prop} (hh : A.handled = none) (hl : s.heap.IsList l items) (hit : IntsAre items.toList ns) (hb : ns.length + 1 < scanBound)
    (h : ∀ (h' : Heap) (tk c : Nat), SetR w h' s.heap.objs.size (fun j => decide (j ∈ ns)) c → c ≤ ns.length → (∀ b o, s.heap.get? b = some o → h'.get? b = some o) → Q (.ref s.heap.objs.size) { s with heap := h', toks := tk }) :
    wpAny (model P w) A (call (.type "set") [.ref l]) Q E s := by
  have hisz : items.size = ns.length := by
    have q := IntsAre.length hit
    rw [Array.length_toList] at q
    exact q
  obtain ⟨c, tl, hmro⟩ := F.called_set.mro
  have hmade := F.called_set.made
  have hsub := F.called_set.sub
  refine wpAny_call (codeAny_of_tree ?_)
  show wpAny _ _ (callAny (.type "set") _) _ _ _
  refine wpAny_pure ⟨Code.quiet_builtin _ (by decide +kernel), codeAny_builtin F.entry_type_call ?_⟩
  rw [Around.under_plain (weight_type_call_type "set" [.ref l] []) rfl]
  have h1 := F.called_set.notType
  have h2 := F.called_set.canCreate
  have hct := F.typeCall_set_1 (.ref l)
  repeat (any_goals (first | assumption | wp_step))

  refine codeAny_mono (code_set_led1 (.ref l) (E := E) (Q₁ := fun obj s₁ => obj = .ref s.heap.objs.size ∧ s₁ = { s with heap := s.heap.push { cls := .type "set", dict := none, data := .set #[] 0 (.fresh 0 0 (!w.params.followText "set-order")) } }) ⟨rfl, rfl⟩) fun r s₁ hr => ?_
  cases r with
  | error e => exact hr
  | ok fl =>
    cases fl with
    | ret obj =>
      obtain ⟨rfl, rfl⟩ := hr
      have hS : (s.heap.push { cls := .type "set", dict := none, data := .set #[] 0 (.fresh 0 0 (!w.params.followText "set-order")) }).get? s.heap.objs.size = some { cls := .type "set", dict := none, data := .set #[] 0 (.fresh 0 0 (!w.params.followText "set-order")) } := Heap.get?_push_size _ rfl
      have hT : Shared.TypeIs { s with heap := s.heap.push { cls := .type "set", dict := none, data := .set #[] 0 (.fresh 0 0 (!w.params.followText "set-order")) } } (.ref s.heap.objs.size) "set" := ⟨_, hS, rfl⟩
      have hli := F.called_set.init.lookup
      have hbi := F.called_set.init.bind (.ref s.heap.objs.size)
      repeat (any_goals (first | assumption | wp_step))

      refine codeAny_mono (codeAny_call_builtin (R := wants (fun r s₂ => r = .none ∧ ∃ h' tk c, s₂ = { s with heap := h', toks := tk } ∧ SetR w h' s.heap.objs.size (fun j => decide (j ∈ ns)) c ∧ c ≤ ns.length ∧
          (∀ b o, s.heap.get? b = some o → h'.get? b = some o)) E) F.called_set.init.plain F.entry_set_init (check_set_init_1 hT ?_)) fun r₂ s₂ hr₂ => ?_
      · obtain ⟨ol, hol, hcl, nl, hdl⟩ := hl
        obtain ⟨ocls, odict, odata, oslots⟩ := ol
        simp only at hcl hdl
        subst hcl; subst hdl
        have hol' : (s.heap.push { cls := .type "set", dict := none, data := .set #[] 0 (.fresh 0 0 (!w.params.followText "set-order")) }).get? l = some { cls := .type "list", dict := odict, data := .seq items nl, slots := oslots } := Heap.get?_push_of_some _ hol
        have hsls := F.sub_list_set
        have hslf := F.sub_list_frozenset
        have hne : (Value.type "list" == Value.type "dict") = false := by decide
        have hl1 : (s.heap.push { cls := .type "set", dict := none, data := .set #[] 0 (.fresh 0 0 (!w.params.followText "set-order")) }).IsList l items := ⟨_, hol', rfl, nl, rfl⟩
        unfold Builtin.«set.__init__» noKeywords Builtin.Frozenset.updateFrom
        generalize hPI : pyIter = PI
        wp_walk
        subst hPI

        refine wpAny_pyIter_list hl1 ?_
        refine wpAny_bind (wpAny_runValue ?_)
        have hlS : l < s.heap.objs.size := Heap.lt_size hol
        have hh3 : A.in1.in1.in1.handled = none := by simp [hh]
        have hz1 : (s.heap.push { cls := .type "set", dict := none, data := .set #[] 0 (.fresh 0 0 (!w.params.followText "set-order")) }).objs.size = s.heap.objs.size + 1 := Heap.size_push ..
        have hneI : l ≠ (s.heap.push { cls := .type "set", dict := none, data := .set #[] 0 (.fresh 0 0 (!w.params.followText "set-order")) }).objs.size := by
          rw [Heap.size_push]; exact Nat.ne_of_lt (Nat.lt_succ_of_lt hlS)
        have hSf : s.heap.objs.size ∉ [(s.heap.push { cls := .type "set", dict := none, data := .set #[] 0 (.fresh 0 0 (!w.params.followText "set-order")) }).objs.size, l] := by
          rw [Heap.size_push]; simp only [List.mem_cons, List.mem_singleton, List.not_mem_nil, or_false, not_or]
          exact ⟨Nat.ne_of_lt (Nat.lt_succ_self _), Nat.ne_of_gt hlS⟩
        have hval : ∀ (i : Nat) (v : Value), items[i]? = some v → ∃ k t, ns[i]? = some k ∧ v = .int k t := fun i v hv => by
          have hi : i < ns.length := by rw [← hisz]; exact (Array.getElem?_eq_some_iff.mp hv).1
          obtain ⟨t, e⟩ := PyProof.Rows.IntsAre.int_at hit i v (by rw [Array.getElem?_toList]; exact hv)
          refine ⟨ns[i], t, List.getElem?_eq_getElem hi, ?_⟩
          rw [e, List.getD_eq_getElem?_getD, List.getElem?_eq_getElem hi] <;> rfl
        refine set_update_ints ((Walks.list hh3 _ l hneI items).toS) s.heap.objs.size
          hSf ns hisz hb hval (items.size - 0) 0 _ (by omega) (Nat.zero_le _)
          ⟨⟨_, Heap.get?_push_size _ rfl, rfl, rfl⟩, (hl1.push _)⟩ ?hS0 ?hR
        case hS0 =>
          have hget : ((s.heap.push { cls := .type "set", dict := none, data := .set #[] 0 (.fresh 0 0 (!w.params.followText "set-order")) }).push { cls := .type "list_iterator", data := .fields #[.ref l, .int 0 0] }).get? s.heap.objs.size
              = some { cls := .type "set", dict := none, data := .set #[] 0 (.fresh 0 0 (!w.params.followText "set-order")) } := Heap.get?_push_of_some _ hS
          exact ⟨0, Nat.le_refl 0, setR_new_at hget⟩
        case hR =>
          intro s' c' hm hc' hS'
          obtain ⟨h', g2, d', tk', os'⟩ := s'
          have eg : g2 = s.gens := hm.gens
          have ed : d' = s.drawn := hm.drawn
          have eo : os' = s.os := hm.os
          subst eg; subst ed; subst eo
          show wpAny _ _ _ _ _ _
          refine wpAny_pure ?_
          show wpAny _ _ (ret Value.none) _ _ _
          rw [hisz] at hc'
          refine wpAny_pure ⟨rfl, h', tk', c', rfl, hS', hc', fun b o e => ?_⟩
          have hb0 : b < s.heap.objs.size := Heap.lt_size e
          have hb1 : b ≠ s.heap.objs.size := Nat.ne_of_lt hb0
          have hb2 : b ≠ (s.heap.push { cls := .type "set", dict := none, data := .set #[] 0 (.fresh 0 0 (!w.params.followText "set-order")) }).objs.size := by
            rw [Heap.size_push]; exact Nat.ne_of_lt (Nat.lt_succ_of_lt hb0)
          exact hm.heap b o (by simp only [List.mem_cons, List.mem_singleton, List.not_mem_nil, or_false, not_or]; exact ⟨hb1, hb2⟩) (Heap.get?_push_of_some _ (Heap.get?_push_of_some _ e))

      · cases r₂ with
        | error e => exact hr₂
        | ok fl₂ =>
          cases fl₂ with
          | ret r =>
            obtain ⟨rfl, h', tk, c', rfl, hS', hc', hk'⟩ := hr₂
            repeat (any_goals (first | assumption | wp_step))
            exact h _ _ _ hS' hc' hk'
          | _ => exact hr₂.elim
    | _ => exact hr.elim

end
end Ev
set_option Elab.async false
set_option linter.all false
set_option maxRecDepth 100000
set_option maxHeartbeats 1000000
/-! The built-in functions of the plain machine, called. -/
namespace Ev
open PySem PySem.Spec PyProof.Rows L2

abbrev RBs (K : PySem.W.Frag) (H : Hp) (tg : TF) : List V → List D → Prop := Paired (RB K H tg)
theorem RBs.ext {K : PySem.W.Frag} {H H' : Hp} {tg tg' : TF} (e : Ext H tg H' tg') : ∀ {xs : List V} {ds : List D}, RBs K H tg xs ds → RBs K H' tg' xs ds
  | _, _, .nil => .nil
  | _, _, .cons h r => .cons (h.ext e) (RBs.ext e r)
theorem RVs.rbs {K : PySem.W.Frag} {H : Hp} {tg : TF} : ∀ {ds : List D} {xs : List V}, RVs K H tg xs ds → RBs K H tg xs ds
  | [], _, h => by cases h; exact .nil
  | d :: ds, _, h => by
    cases h with
    | cons h r => exact .cons (.inl h) (RVs.rbs r)
theorem rbs1 {K : PySem.W.Frag} {H : Hp} {tg : TF} {d : D} {xs : List V} (h : RBs K H tg xs [d]) : ∃ x, xs = [x] ∧ RB K H tg x d := by
  cases h with
  | cons h r => cases r; exact ⟨_, rfl, h⟩
theorem rbs2 {K : PySem.W.Frag} {H : Hp} {tg : TF} {d e : D} {xs : List V} (h : RBs K H tg xs [d, e]) : ∃ x y, xs = [x, y] ∧ RB K H tg x d ∧ RB K H tg y e := by
  cases h with
  | cons h r => cases r with
    | cons h' r => cases r; exact ⟨_, _, rfl, h, h'⟩
/-- the built-ins that are called by one name -/
def Bi.val : Bi → Option Value
  | .len => some (.builtin "len") | .abs => some (.builtin "abs") | .int => some (.type "int") | .max2 => some (.builtin "max") | .min2 => some (.builtin "min")
  | .max1 => some (.builtin "max") | .min1 => some (.builtin "min") | .sum => some (.builtin "sum") | .all => some (.builtin "all") | .sorted => some (.builtin "sorted")
  | .tuple => some (.type "tuple") | .list => some (.type "list") | .str => some (.type "str") | _ => none
def Bi.fr : Bi → Bool
  | .sorted => true | .list => true | .sset => true | .listrng => true | .listvals => true | _ => false
def rBi (K : PySem.W.Frag) (b : Bi) : List V → Hp → VK → Prop := fun vs H Q => ∃ tg st ds d, Wf K H tg st ∧ NoTmp tg ∧ RBs K H tg vs ds ∧ biD b ds = some d ∧
  ∀ tg' v H', Ext H tg H' tg' → Wf K H' tg' st → RX K H' tg' v (d, b.fr) → Q v H'
/-- a list of ints, of bools, that is looked at -/
theorem RB.intsL {K : PySem.W.Frag} {H : Hp} {tg : TF} {x : V} {d : D} {ds : List D} {ns : List Int} (r : RB K H tg x d) (e : Ev.elems d = some ds) (i : intsD ds = some ns) : ∃ a, x = .ref a ∧ (SqL K H a (ns.map V.int) ∨ SqT K H a (ns.map V.int)) := by
  obtain ⟨a, xs, rfl, h, rs⟩ := r.elems e
  have := rs.ints i
  subst this
  exact ⟨a, rfl, h⟩
theorem lst_elems {d : D} {ds : List D} (h : lstD d = some ds) : d = .lst ds := by
  cases d <;> cases h
  rfl
theorem cr_bi {X : Cx} (hc : X.calm = true) {b : Bi} {f : Value} (hf : b.val = some f) : CallR X f (rBi X.K b) := by
  cases b with
  | len =>
    cases hf
    refine cr_imp call_len fun vs H Q ⟨tg, st, ds, d, w, nt, r, e, k⟩ => ?_
    cases ds with
    | nil => cases e
    | cons d0 ds => cases ds with
      | cons _ _ => cases e
      | nil =>
        obtain ⟨x, rfl, rx⟩ := rbs1 r
        obtain ⟨n, e1, e2⟩ := Option.map_eq_some_iff.mp (show (lenD d0).map .int = some d from e)
        subst e2
        cases d0 with
        | lst ds => cases e1; obtain ⟨a, xs, rfl, h, rs⟩ := rx.lst; exact ⟨_, xs.length, rfl, .inl ⟨xs, SqL.of h, rfl⟩, rx_val w nt (by rw [rs.length]; exact .int _) k⟩
        | tup ds => cases e1; obtain ⟨a, xs, rfl, h, rs⟩ := rx.tup; exact ⟨_, xs.length, rfl, .inr ⟨xs, SqT.of h, rfl⟩, rx_val w nt (by rw [rs.length]; exact .int _) k⟩
        | scr ns => cases e1; obtain ⟨a, rfl, h⟩ := rx.scr; exact ⟨_, (ns.map V.int).length, rfl, .inl ⟨_, h, rfl⟩, rx_val w nt (by rw [List.length_map]; exact .int _) k⟩
        | str s =>
          obtain ⟨h, e1⟩ := if_some e1
          cases e1
          have := rx.str
          subst this
          exact ⟨_, s.length, rfl, ⟨by rw [line_eq]; exact h, rfl⟩, rx_val w nt (.int _) k⟩
        | _ => cases e1
  | abs =>
    cases hf
    refine cr_imp call_abs fun vs H Q ⟨tg, st, ds, d, w, nt, r, e, k⟩ => ?_
    cases ds with
    | nil => cases e
    | cons d0 ds => cases ds with
      | cons _ _ => cases d0 <;> cases e
      | nil =>
        obtain ⟨x, rfl, rx⟩ := rbs1 r
        cases d0 with
        | int i => cases e; exact ⟨i, by rw [rx.int], rx_val w nt (.int _) k⟩
        | _ => cases e
  | int =>
    cases hf
    refine cr_imp call_int1 fun vs H Q ⟨tg, st, ds, d, w, nt, r, e, k⟩ => ?_
    cases ds with
    | nil => cases e
    | cons d0 ds => cases ds with
      | cons _ _ => cases d0 <;> cases e
      | nil =>
        obtain ⟨x, rfl, rx⟩ := rbs1 r
        cases d0 with
        | int i => cases e; exact .inl ⟨i, by rw [rx.int], rx_val w nt (.int _) k⟩
        | bl i => cases e; exact .inr ⟨i, by rw [rx.bl], rx_val w nt (.int _) k⟩
        | _ => cases e
  | max2 =>
    cases hf
    refine cr_imp (call_max2 hc) fun vs H Q ⟨tg, st, ds, d, w, nt, r, e, k⟩ => ?_
    cases ds with
    | nil => cases e
    | cons d0 ds => cases ds with
      | nil => cases d0 <;> cases e
      | cons d1 ds => cases ds with
        | cons _ _ => cases d0 <;> first | cases e | (cases d1 <;> cases e)
        | nil =>
          obtain ⟨x, y, rfl, rx, ry⟩ := rbs2 r
          cases d0 with
          | int i => cases d1 with
            | int j => cases e; exact ⟨i, j, by rw [rx.int, ry.int], rx_val w nt (.int _) k⟩
            | _ => cases e
          | _ => cases e
  | min2 =>
    cases hf
    refine cr_imp (call_min2 hc) fun vs H Q ⟨tg, st, ds, d, w, nt, r, e, k⟩ => ?_
    cases ds with
    | nil => cases e
    | cons d0 ds => cases ds with
      | nil => cases d0 <;> cases e
      | cons d1 ds => cases ds with
        | cons _ _ => cases d0 <;> first | cases e | (cases d1 <;> cases e)
        | nil =>
          obtain ⟨x, y, rfl, rx, ry⟩ := rbs2 r
          cases d0 with
          | int i => cases d1 with
            | int j => cases e; exact ⟨i, j, by rw [rx.int, ry.int], rx_val w nt (.int _) k⟩
            | _ => cases e
          | _ => cases e
  | max1 =>
    cases hf
    refine cr_imp (cr_max hc) fun vs H Q ⟨tg, st, ds, d, w, nt, r, e, k⟩ => ?_
    cases ds with
    | nil => cases e
    | cons d0 ds => cases ds with
      | cons _ _ => cases e
      | nil =>
        obtain ⟨x, rfl, rx⟩ := rbs1 r
        obtain ⟨es, h1, e⟩ := Option.bind_eq_some_iff.mp (show ((lstD d0).bind fun ds => (intsD ds).bind fun ns => (maxL ns).map .int) = some d from e)
        obtain ⟨ns, h2, e⟩ := Option.bind_eq_some_iff.mp e
        obtain ⟨m, h3, e⟩ := Option.map_eq_some_iff.mp e
        subst e
        have := lst_elems h1
        subst this
        obtain ⟨a, xs, rfl, h, rs⟩ := rx.lst
        have := rs.ints h2
        subst this
        obtain ⟨m1, m2⟩ := maxL_ok h3
        refine ⟨a, ns, rfl, SqL.of h, List.length_pos_of_mem m1, fun m' h5 h6 => ?_⟩
        have : m' = m := Int.le_antisymm (m2 m' h5) (h6 m m1)
        subst this
        exact rx_val w nt (.int _) k
  | min1 =>
    cases hf
    refine cr_imp (cr_min hc) fun vs H Q ⟨tg, st, ds, d, w, nt, r, e, k⟩ => ?_
    cases ds with
    | nil => cases e
    | cons d0 ds => cases ds with
      | cons _ _ => cases e
      | nil =>
        obtain ⟨x, rfl, rx⟩ := rbs1 r
        obtain ⟨es, h1, e⟩ := Option.bind_eq_some_iff.mp (show ((lstD d0).bind fun ds => (intsD ds).bind fun ns => (minL ns).map .int) = some d from e)
        obtain ⟨ns, h2, e⟩ := Option.bind_eq_some_iff.mp e
        obtain ⟨m, h3, e⟩ := Option.map_eq_some_iff.mp e
        subst e
        have := lst_elems h1
        subst this
        obtain ⟨a, xs, rfl, h, rs⟩ := rx.lst
        have := rs.ints h2
        subst this
        obtain ⟨m1, m2⟩ := minL_ok h3
        refine ⟨a, ns, rfl, SqL.of h, List.length_pos_of_mem m1, fun m' h5 h6 => ?_⟩
        have : m' = m := Int.le_antisymm (h6 m m1) (m2 m' h5)
        subst this
        exact rx_val w nt (.int _) k
  | sum =>
    cases hf
    refine cr_imp (cr_or (cr_sum hc) (cr_sumT hc)) fun vs H Q ⟨tg, st, ds, d, w, nt, r, e, k⟩ => ?_
    cases ds with
    | nil => cases e
    | cons d0 ds => cases ds with
      | cons _ _ => cases e
      | nil =>
        obtain ⟨x, rfl, rx⟩ := rbs1 r
        obtain ⟨es, h1, e⟩ := Option.bind_eq_some_iff.mp (show ((elems d0).bind fun ds => (intsD ds).map fun ns => .int ns.sum) = some d from e)
        obtain ⟨ns, h2, e⟩ := Option.map_eq_some_iff.mp e
        subst e
        obtain ⟨a, rfl, h⟩ := rx.intsL h1 h2
        rcases h with h | h
        · exact .inl ⟨a, ns, rfl, h, rx_val w nt (.int _) k⟩
        · exact .inr ⟨a, ns, rfl, h, rx_val w nt (.int _) k⟩
  | all =>
    cases hf
    refine cr_imp (cr_all hc) fun vs H Q ⟨tg, st, ds, d, w, nt, r, e, k⟩ => ?_
    cases ds with
    | nil => cases e
    | cons d0 ds => cases ds with
      | cons _ _ => cases e
      | nil =>
        obtain ⟨x, rfl, rx⟩ := rbs1 r
        obtain ⟨es, h1, e⟩ := Option.bind_eq_some_iff.mp (show ((lstD d0).bind fun ds => (boolsD ds).map fun bs => .bl (bs.all id)) = some d from e)
        obtain ⟨bs, h2, e⟩ := Option.map_eq_some_iff.mp e
        subst e
        have := lst_elems h1
        subst this
        obtain ⟨a, xs, rfl, h, rs⟩ := rx.lst
        have := rs.bools h2
        subst this
        exact ⟨a, bs, rfl, SqL.of h, rx_val w nt (.bl _) k⟩
  | sorted =>
    cases hf
    refine cr_imp (cr_or cr_sortedI cr_sortedT) fun vs H Q ⟨tg, st, ds, d, w, nt, r, e, k⟩ => ?_
    cases ds with
    | nil => cases e
    | cons d0 ds => cases ds with
      | cons _ _ => cases e
      | nil =>
        obtain ⟨x, rfl, rx⟩ := rbs1 r
        obtain ⟨es, h1, e⟩ := Option.bind_eq_some_iff.mp (show ((elems d0).bind fun ds => (intsD ds).map fun ns => .lst ((isort ns).map .int)) = some d from e)
        obtain ⟨ns, h2, e⟩ := Option.map_eq_some_iff.mp e
        subst e
        have fin : ∀ (ns' : List Int) (p : Addr), ns'.Perm ns → ns'.Pairwise (· ≤ ·) → H p = none → Q (.ref p) (upd H p (.lst (ns'.map V.int))) := fun ns' p h3 h4 hp => by
          have : ns' = isort ns := asc_unique (h3.trans (isort_perm ns).symm) h4 (isort_asc ns)
          subst this
          exact rx_lst w nt (RVs.of_ints _) hp k
        obtain ⟨a, rfl, h⟩ := rx.intsL h1 h2
        rcases h with h | h
        · exact .inl ⟨a, ns, rfl, h, fin⟩
        · exact .inr ⟨a, ns, rfl, h, fin⟩
  | tuple =>
    cases hf
    refine cr_imp call_tuple_of fun vs H Q ⟨tg, st, ds, d, w, nt, r, e, k⟩ => ?_
    cases ds with
    | nil => cases e
    | cons d0 ds => cases ds with
      | cons _ _ => cases e
      | nil =>
        obtain ⟨x, rfl, rx⟩ := rbs1 r
        obtain ⟨es, h1, e⟩ := Option.map_eq_some_iff.mp (show (elems d0).map .tup = some d from e)
        subst e
        cases d0 with
        | lst ds => cases h1; obtain ⟨a, xs, rfl, h, rs⟩ := rx.lst; exact ⟨a, xs, rfl, .inl ⟨SqL.of h, fun l hl => rx_tup w nt rs hl k⟩⟩
        | tup ds =>
          cases h1
          obtain ⟨a, xs, e, h, rs⟩ := rx.tup
          subst e
          refine ⟨a, xs, rfl, .inr ⟨SqT.of h, ?_⟩⟩
          rcases rx with rx | ⟨_, _, o, _, _, _, e⟩
          · exact rx_val w nt rx k
          · cases o <;> cases e
        | _ => cases h1
  | list =>
    cases hf
    refine cr_imp call_list_of fun vs H Q ⟨tg, st, ds, d, w, nt, r, e, k⟩ => ?_
    cases ds with
    | nil => cases e
    | cons d0 ds => cases ds with
      | cons _ _ => cases e
      | nil =>
        obtain ⟨x, rfl, rx⟩ := rbs1 r
        obtain ⟨es, h1, e⟩ := Option.map_eq_some_iff.mp (show (elems d0).map .lst = some d from e)
        subst e
        obtain ⟨a, xs, rfl, h, rs⟩ := rx.elems h1
        exact ⟨a, xs, rfl, h, fun l hl => rx_lst w nt rs hl k⟩
  | str =>
    cases hf
    refine cr_imp call_str_int fun vs H Q ⟨tg, st, ds, d, w, nt, r, e, k⟩ => ?_
    cases ds with
    | nil => cases e
    | cons d0 ds => cases ds with
      | cons _ _ => cases d0 <;> cases e
      | nil =>
        obtain ⟨x, rfl, rx⟩ := rbs1 r
        cases d0 with
        | int i =>
          obtain ⟨h, e⟩ := if_some (show (if i.natAbs.log2 < 1920 then some (D.str (toString i)) else none) = some d from e)
          cases e
          exact ⟨i, by rw [rx.int], h, rx_val w nt (.str _) k⟩
        | _ => cases e
  | _ => cases hf
end Ev
set_option Elab.async false
set_option linter.all false
set_option maxRecDepth 100000
set_option maxHeartbeats 1000000
/-! The look: is a text of the plain machine what the model's syntax says? -/
namespace Ev
open PySem PySem.Spec PyProof.Rows L2

/-- what a text leans on: its names by place, its scope, the module's names of constants and defs -/
structure Cc where
  N : List Str
  sc : Scope
  gl : Nat → Option Str
  fn : Nat → Option Str
def isVis (sc : Scope) (x : Str) : Bool := match sc.names.lookup x with
  | some .local => true
  | some .cell => true
  | some .free => true
  | _ => false
def isLoc (sc : Scope) (x : Str) : Bool := match sc.names.lookup x with
  | some .local => true
  | some .cell => true
  | _ => false
def isGlo (sc : Scope) (x : Str) : Bool := match sc.names.lookup x with
  | some .globalImplicit => true
  | _ => false
def okNm (x : Str) : Bool := decide (x ≠ "__debug__") && decide (x ≠ "__classdict__") && decide (x ≠ "__name__")
def chkN (c : Cc) (i : Nat) (x : Str) : Bool := decide (c.N[i]? = some x) && isVis c.sc x && okNm x
def chkSt (c : Cc) (i : Nat) (x : Str) : Bool := decide (c.N[i]? = some x) && isLoc c.sc x && okNm x
def chkG (c : Cc) (o : Option Str) (x : Str) : Bool := decide (o = some x) && isGlo c.sc x && okNm x
def chkBt (c : Cc) (b x : Str) : Bool := decide (x = b) && isGlo c.sc x
def notStar : Expr → Bool
  | .Starred .. => false
  | _ => true
def notIf : Expr → Bool
  | .IfExp .. => false
  | _ => true
def notSet : Expr → Bool
  | .Set .. => false
  | _ => true
def notComp : Expr → Bool
  | .ListComp .. => false
  | .SetComp .. => false
  | .DictComp .. => false
  | _ => true
def notSlice : Expr → Bool
  | .Slice .. => false
  | _ => true
def isNS : Expr → Bool
  | .Name .. => true
  | .Subscript .. => true
  | _ => false
def notSuper : Expr → Bool
  | .Call (.Name id _) [] [] _ => decide (id ≠ "super")
  | _ => true
def Bi.name : Bi → Option Str
  | .len => some "len" | .abs => some "abs" | .int => some "int" | .max2 => some "max" | .min2 => some "min"
  | .max1 => some "max" | .min1 => some "min" | .sum => some "sum" | .all => some "all" | .sorted => some "sorted"
  | .tuple => some "tuple" | .list => some "list" | .str => some "str" | _ => none
def Ty.pname : Ty → Str
  | .int => "int" | .bool => "bool" | .str => "str" | .tuple => "tuple"
def constD : D → Const → Bool
  | .non, .none => true
  | .bl a, .bool b => a == b
  | _, _ => false
/-- a target: its names, their places -/
def chkTs (c : Cc) : List Nat → List Expr → Bool
  | [], [] => true
  | i :: is, .Name x _ :: ts => chkSt c i x && chkTs c is ts
  | _, _ => false
def chkTg (c : Cc) : Tg → Expr → Bool
  | .one i, .Name x _ => chkSt c i x
  | .many is, .Tuple ts _ _ => chkTs c is ts
  | _, _ => false
def tgOwn (c : Cc) : Tg → List (Str × Nat)
  | .one i => [((c.N[i]?).getD Str.empty, i)]
  | .many is => is.map fun i => ((c.N[i]?).getD Str.empty, i)
def isTup : Expr → Bool
  | .Tuple .. => true
  | _ => false
mutual
def chk : Ex → Cc → Bool → Expr → Bool
  | .cint i, _, _, s => match s with | .Constant (.int j) _ _ => i == j | _ => false
  | .cstr i, _, _, s => match s with | .Constant (.str j) _ _ => i == j | _ => false
  | .cbl i, _, _, s => match s with | .Constant (.bool j) _ _ => i == j | _ => false
  | .cnon, _, _, s => match s with | .Constant .none _ _ => true | _ => false
  | .var i, c, _, s => match s with | .Name x _ => chkN c i x | _ => false
  | .bor i, c, bw, s => match s with | .Name x _ => bw && chkN c i x | _ => false
  | .glob g, c, _, s => match s with | .Name x _ => chkG c (c.gl g) x | _ => false
  | .bin op a b, c, _, s => match s with | .BinOp l o r _ => decide (op.op = o) && chk a c true l && chk b c true r | _ => false
  | .neg a, c, _, s => match s with | .UnaryOp .USub x _ => chk a c true x | _ => false
  | .not a, c, _, s => match s with | .UnaryOp .Not x _ => chk a c false x && notIf x | _ => false
  | .cmp op a b, c, _, s => match s with | .Compare l [o] [r] _ => decide (op.op = o) && chk a c true l && chk b c true r && notSet r | _ => false
  | .chain p q a b d, c, _, s => match s with
    | .Compare l [o, o'] [r, r'] _ => decide (p.op = o) && decide (q.op = o') && chk a c true l && chk b c true r && chk d c true r' && notSet r && notSet r'
    | _ => false
  | .chain3 p q t a b d e, c, _, s => match s with
    | .Compare l [o, o', o2] [r, r', r2] _ => decide (p.op = o) && decide (q.op = o') && decide (t.op = o2) && chk a c true l && chk b c true r && chk d c true r' && chk e c true r2 && notSet r && notSet r' && notSet r2
    | _ => false
  | .isc n a k, c, _, s => match s with | .Compare l [o] [.Constant j _ _] _ => decide (o = if n then .IsNot else .Is) && chk a c true l && constD k j | _ => false
  | .and es, c, _, s => match s with | .BoolOp .And vs _ => chkb es c vs | _ => false
  | .or es, c, _, s => match s with | .BoolOp .Or vs _ => chkb es c vs | _ => false
  | .ife t a b, c, _, s => match s with | .IfExp x y z _ => chk t c false x && notIf x && chk a c false y && chk b c false z | _ => false
  | .tup es, c, _, s => match s with | .Tuple vs _ _ => chks es c false vs | _ => false
  | .list es, c, _, s => match s with | .List vs _ => chks es c false vs | _ => false
  | .dict k ps, c, _, s => match s with | .Dict ks vs _ => chkpk ps c ks vs && decide (ks.length ≤ 15) && (!k || ks.isEmpty) | _ => false
  | .dget i k x, c, _, s => match s with | .Call (.Attribute (.Name y _) m apos) [sk, sx] [] cpos => decide (m = "get") && chkN c i y && chk k c true sk && chk x c false sx && notStar sk && notStar sx && (apos.endLine == cpos.line) | _ => false
  | .ix a i, c, _, s => match s with | .Subscript v s _ => chk a c true v && chk i c true s && notSlice s | _ => false
  | .ixr i k, c, _, s => match s with | .Subscript (.Name x _) s _ => chkN c i x && chk k c true s && notSlice s | _ => false
  | .inr n k i, c, _, s => match s with | .Compare l [o] [.Name x _] _ => decide (o = if n then .NotIn else .In) && chk k c true l && chkN c i x | _ => false
  | .sl a lo hi, c, _, s => match s with | .Subscript v (.Slice l h none _) _ => chk a c true v && chko lo c l && chko hi c h | _ => false
  | .slr a, c, _, s => match s with | .Subscript v (.Slice none none (some (.UnaryOp .USub (.Constant (.int i) _ _) _)) _) _ => chk a c true v && i == 1 | _ => false
  | .call f es, c, _, s => match s with | .Call (.Name x _) args [] _ => chkG c (c.fn f) x && chks es c false args | _ => false
  | .bi b es, c, _, s => match b with
    | .sset => match s with
      | .Call (.Name x _) [.Call (.Name y _) args [] _] [] _ => chkBt c "sorted" x && chkBt c "set" y && chks es c true args && args.length == 1
      | _ => false
    | .lenset => match s with
      | .Call (.Name x _) [.Call (.Name y _) args [] _] [] _ => chkBt c "len" x && chkBt c "set" y && chks es c true args && args.length == 1
      | _ => false
    | .listrng => match s with
      | .Call (.Name x _) [.Call (.Name y _) args [] _] [] _ => chkBt c "list" x && chkBt c "range" y && chks es c true args && (args.length == 1 || args.length == 2)
      | _ => false
    | .tuprng => match s with
      | .Call (.Name x _) [.Call (.Name y _) args [] _] [] _ => chkBt c "tuple" x && chkBt c "range" y && chks es c true args && (args.length == 1 || args.length == 2)
      | _ => false
    | b => match s with
      | .Call (.Name x _) args [] _ => decide (b.name = some x) && isGlo c.sc x && chks es c true args && !args.isEmpty
      | _ => false
  | .isi a t, c, _, s => match s with | .Call (.Name x _) [v, .Name y _] [] _ => chkBt c "isinstance" x && chkBt c t.pname y && chk a c true v && notStar v | _ => false
  | .lc elt tg it tests, c, _, s => match s with
    | .ListComp e [⟨t, i, ifs, z⟩] scope _ => z == 0 && chki it c true i t && blkC c.N c.sc scope (tgOwn c tg) && chkTg { c with sc := scope } tg t && chk elt { c with sc := scope } false e && chkt tests { c with sc := scope } ifs
    | _ => false
  | .lvals a, c, _, s => match s with
    | .Call (.Name x _) [.Call (.Attribute v m apos) [] [] cpos] [] _ => chkBt c "list" x && decide (m = "values") && chk a c true v && (apos.endLine == cpos.line) && isNS v
    | _ => false
  | .share e, c, _, s => (match e with | .dict .. => true | _ => false) && chk e c false s
  | _, _, _, _ => false
/-- arguments -/
def chks : Ex → Cc → Bool → List Expr → Bool
  | .nil, _, _, ss => match ss with | [] => true | _ => false
  | .cons e es, c, bw, ss => match ss with | s :: ss => chk e c bw s && notStar s && chks es c bw ss | _ => false
  | _, _, _, _ => false
/-- the parts of and, or -/
def chkb : Ex → Cc → List Expr → Bool
  | .cons e es, c, ss => match ss with
    | s :: ss => chk e c false s && notIf s && (match es with | .nil => (match ss with | [] => true | _ => false) | _ => chkb es c ss)
    | _ => false
  | _, _, _ => false
/-- tests of a comprehension (one, or none) -/
def chkt : Ex → Cc → List Expr → Bool
  | .nil, _, ss => match ss with | [] => true | _ => false
  | .cons e es, c, ss => match ss with
    | [s] => chk e c false s && notIf s && (match es with | .nil => true | _ => false)
    | _ => false
  | _, _, _ => false
/-- a slice's part -/
def chko : Ex → Cc → Option Expr → Bool
  | .nil, _, s => match s with | none => true | _ => false
  | .cint i, _, s => match s with | some (.Constant (.int j) _ _) => i == j | _ => false
  | .var i, c, s => match s with | some (.Name x _) => chkN c i x | _ => false
  | .bin op a b, c, s => match s with | some (.BinOp l o r _) => decide (op.op = o) && chk a c true l && chk b c true r | _ => false
  | .neg a, c, s => match s with | some (.UnaryOp .USub x _) => chk a c true x | _ => false
  | _, _, _ => false
/-- a display's keys and values, by turns -/
def chkpk : Ex → Cc → List (Option Expr) → List Expr → Bool
  | .nil, _, ks, vs => ks.isEmpty && vs.isEmpty
  | .cons e es, c, ks, vs => match ks with | some s :: ks => chk e c false s && chkpv es c ks vs | _ => false
  | _, _, _, _ => false
def chkpv : Ex → Cc → List (Option Expr) → List Expr → Bool
  | .cons e es, c, ks, vs => match vs with | s :: vs => chk e c false s && chkpk es c ks vs | _ => false
  | _, _, _, _ => false
/-- what a loop walks; the target -/
def chki : Ex → Cc → Bool → Expr → Expr → Bool
  | .seq a, c, bw, s, _ => chk a c bw s && notSet s
  | .rng es, c, _, s, _ => match s with | .Call (.Name x _) args [] _ => chkBt c "range" x && chks es c true args && !args.isEmpty && decide (args.length ≤ 3) | _ => false
  | .enu a, c, bw, s, t => match s with | .Call (.Name x _) [v] [] _ => chkBt c "enumerate" x && chk a c bw v && notStar v && isTup t | _ => false
  | .zip a b, c, bw, s, t => match s with | .Call (.Name x _) [v, w] [] _ => chkBt c "zip" x && chk a c bw v && chk b c bw w && notStar v && notStar w && isTup t | _ => false
  | _, _, _, _, _ => false
end
end Ev
set_option Elab.async false
set_option linter.all false
set_option maxRecDepth 100000
set_option maxHeartbeats 1000000
/-! What stands around a text, and the small steps of the proof. -/
namespace Ev
open PySem PySem.Spec PyProof.Rows L2

/-- a def's promise, by its plain meaning -/
def spM (K : PySem.W.Frag) (m : List D → Sto → Res (D × Bool)) (np : Nat) : Sp := fun vs H Q _ =>
  vs.length = np ∧ ∃ tg st ds r st', Wf K H tg st ∧ NoTmp tg ∧ RVs K H tg vs ds ∧ m ds st = .ok r st' ∧ ∀ tg' v H', Ext H tg H' tg' → Wf K H' tg' st' → RX K H' tg' v r → Q v H'
def bnames : List Str := ["len", "abs", "int", "max", "min", "sum", "all", "sorted", "tuple", "list", "str", "set", "range", "enumerate", "zip", "isinstance", "bool"]
structure Good (X : Cx) (c : Cc) (F : Nat → List D → Sto → Res (D × Bool)) (Γ : Nat → D) : Prop where
  nm : X.N = c.N
  nd : c.N.Nodup
  calm : X.calm = true
  vis : ∀ x, isVis c.sc x = true → Vis X.env.scope x
  loc : ∀ x, isLoc c.sc x = true → Loc X.env.scope x ∧ (X.fn x = true ∨ X.env.scope.names.lookup x = some .local)
  glo : ∀ x, isGlo c.sc x = true → Gl X x
  cf : ∀ x, c.sc.names.lookup x = some .cell ∨ c.sc.names.lookup x = some .free → X.env.scope.names.lookup x = some .cell ∨ X.env.scope.names.lookup x = some .free
  rm : ∃ k, Room k X.A
  un : X.A.units + 65 < cLine
  bl : ∀ x ∈ bnames, X.mg x = none
  gls : ∀ g x, c.gl g = some x → ∃ u v, X.mg x = some u ∧ RelV v u ∧ ∀ H tg, RV X.K H tg v (Γ g)
  fns : ∀ f x, c.fn f = some x → ∃ a fd ps k, X.mg x = some (.ref a) ∧ FnOk X.prog X.w X.K X.mg X.base CX0 k a fd ps (spM X.K (F f) ps.length) ∧ Room k X.A ∧ PySem.W.keepIn X.K (.ref a) = true ∧ Binds X.K fd ps [] ∧ ∀ ds st r st', F f ds st = .ok r st' → ds.length = ps.length

theorem star_cons {e : Expr} {es : List Expr} {env : Env} (h : notStar e = true) : starEach (e :: es) env = (false, eval e env) :: starEach es env := by
  cases e <;> first | rfl | exact absurd (show false = true from h) Bool.false_ne_true
theorem star_none {env : Env} {pos : Pos} : ∀ {es : List Expr}, es.all notStar = true → (backTo pos (starEach es env)).any (·.1) = false
  | [], _ => rfl
  | e :: es, h => by
    rw [List.all_cons, Bool.and_eq_true] at h
    rw [star_cons h.1]
    show (false || (backTo pos (starEach es env)).any (·.1)) = false
    rw [star_none h.2] <;> rfl
theorem plain_ix {b : Expr} (h : notSlice b = true) : PlainIx b := by
  intro o i
  cases b <;> first | rfl | exact absurd (show false = true from h) Bool.false_ne_true
theorem no_mark {b : Expr} {op : CmpOp} (h : notSet b = true) : behindInMarks op b = false := by
  cases b <;> first | rfl | exact absurd (show false = true from h) Bool.false_ne_true
theorem no_fold {e : Expr} {env : Env} (h : notSet e = true) (x : Value) : foldedSetIterable e env x = pure x := by
  cases e <;> first | rfl | exact absurd (show false = true from h) Bool.false_ne_true
/-- a tmp is let go of -/
theorem fz_of {K : PySem.W.Frag} {H H' : Hp} {tg tg' : TF} {st : Sto} {v : V} {r : D × Bool} (nt : NoTmp tg) (e : Ext H tg H' tg') (w : Wf K H' tg' st) (r' : RX K H' tg' v r) :
    ∃ tg2, Ext H tg H' tg2 ∧ Wf K H' tg2 st ∧ NoTmp tg2 ∧ RV K H' tg2 v r.1 := by
  obtain ⟨d, fr⟩ := r
  cases fr with
  | false => exact ⟨tg', e, w, r'.1, r'.2⟩
  | true =>
    obtain ⟨a, o, rfl, t, u, ro, ed⟩ := r'
    have ht : tg a ≠ some .tmp := nt a
    have ex : Ext H tg H' (mark tg' a none) := by
      refine ⟨fun b x h z => ?_, fun b l h => ?_, fun b i h => ?_, fun b h => ?_⟩
      · obtain ⟨h1, h2⟩ := e.keep b x h z
        have ne : b ≠ a := fun q => by subst q; rw [t] at h2; exact ht h2.symm
        exact ⟨h1, by rw [mark_ne ne]; exact h2⟩
      · obtain ⟨h1, h2⟩ := e.loc b l h
        have ne : b ≠ a := fun q => by subst q; rw [t] at h1; cases h1
        exact ⟨by rw [mark_ne ne]; exact h1, h2⟩
      · by_cases q : b = a
        · subst q; rw [mark_same] at h; cases h
        · rw [mark_ne q] at h; exact e.slot b i h
      · by_cases q : b = a
        · subst q; rw [mark_same] at h; cases h
        · rw [mark_ne q] at h; exact e.out b h
    have le : Le H' tg' H' (mark tg' a none) := Le.free t
    refine ⟨mark tg' a none, ex, ⟨fun b h => ?_, fun b b' l h1 h2 => ?_, fun b l h => ?_, fun l ob h => ?_⟩, fun b h => ?_, ?_⟩
    · by_cases q : b = a
      · subst q; exact mark_same
      · rw [mark_ne q]; exact w.dom b h
    · have q : b ≠ a := fun q => by subst q; rw [mark_same] at h1; cases h1
      have q' : b' ≠ a := fun q => by subst q; rw [mark_same] at h2; cases h2
      rw [mark_ne q] at h1
      rw [mark_ne q'] at h2
      exact w.inj b b' l h1 h2
    · have q : b ≠ a := fun q => by subst q; rw [mark_same] at h; cases h
      rw [mark_ne q] at h
      exact w.bnd b l h
    · obtain ⟨b, h1, h2⟩ := w.sto l ob h
      have q : b ≠ a := fun q => by subst q; rw [t] at h1; cases h1
      exact ⟨b, by rw [mark_ne q]; exact h1, h2.mono le rfl⟩
    · by_cases q : b = a
      · subst q; rw [mark_same] at h; cases h
      · rw [mark_ne q] at h; exact q (u b h)
    · show RV K H' (mark tg' a none) (.ref a) d
      have ed : d = o.toD := ed
      subst ed
      cases o with
      | lst ds => obtain ⟨xs, h, r⟩ := ro; exact .lst h mark_same (r.mono le)
      | dct k kvs =>
        cases k with
        | false => obtain ⟨xs, h, r⟩ := ro; exact .dK (.inl h) mark_same (r.mono le)
        | true => obtain ⟨xs, h, r⟩ := ro; exact .dT h mark_same (r.mono le)
section
variable {X : Cx} {K : PySem.W.Frag} {F : Nat → List D → Sto → Res (D × Bool)} {Γ : Nat → D} {e : Expr}
/-- from the marked form: a value, one that is looked at -/
theorem pe_E {m : Rho → Sto → Res D} {mx : Rho → Sto → Res (D × Bool)} (hm : ∀ ρ st d st', m ρ st = .ok d st' → ∃ fr, mx ρ st = .ok (d, fr) st') (h : PE X e (tmX X.K mx)) : PE X e (tmE X.K m) :=
  h.mono fun σ H Q ⟨tg, ρ, st, d, st', s, he, k⟩ => by
    obtain ⟨fr, hx⟩ := hm ρ st d st' he
    refine ⟨tg, ρ, st, (d, fr), st', s, hx, fun tg' v H' ex w r => ?_⟩
    obtain ⟨tg2, e2, w2, n2, r2⟩ := fz_of s.nt ex w r
    exact k tg2 v H' e2 w2 ⟨n2, r2⟩
theorem pe_B {m : Rho → Sto → Res D} (h : PE X e (tmE X.K m)) : PE X e (tmB X.K m) :=
  h.mono fun σ H Q ⟨tg, ρ, st, d, st', s, he, k⟩ => ⟨tg, ρ, st, d, st', s, he, fun tg' v H' ex w r => k tg' v H' ex w ⟨r.1, .inl r.2⟩⟩
theorem pe_X {m : Rho → Sto → Res D} {mx : Rho → Sto → Res (D × Bool)} (hm : ∀ ρ st r st', mx ρ st = .ok r st' → r.2 = false ∧ m ρ st = .ok r.1 st') (h : PE X e (tmE X.K m)) : PE X e (tmX X.K mx) :=
  h.mono fun σ H Q ⟨tg, ρ, st, r, st', s, hx, k⟩ => by
    obtain ⟨h1, h2⟩ := hm ρ st r st' hx
    refine ⟨tg, ρ, st, r.1, st', s, h2, fun tg' v H' ex w q => k tg' v H' ex w ?_⟩
    show match r.2 with | false => _ | true => _
    rw [h1]
    exact q
end

/-! ### two operands -/
section
variable {X : Cx} {a b : Expr} {ma mb : Rho → Sto → Res D} {pos : Pos}
theorem StR.next {K : PySem.W.Frag} {H H' : Hp} {tg tg' : TF} {st st' : Sto} {ρ : Rho} {σ : L2.St} (s : StR K H tg st ρ σ) (e : Ext H tg H' tg') (w : Wf K H' tg' st') (n : NoTmp tg') : StR K H' tg' st' ρ σ := ⟨w, n, s.sl.ext e⟩
/-- both are looked at; what is said of the pair -/
theorem two_B {f : D → D → Sto → Res D} {r : R2} (fr : D → Bool)
    (hr : ∀ x y H Q tg st d e g st', Wf X.K H tg st → NoTmp tg → RB X.K H tg x d → RB X.K H tg y e → f d e st = .ok g st' → (∀ tg' v H', Ext H tg H' tg' → Wf X.K H' tg' st' → RX X.K H' tg' v (g, fr g) → Q v H') → r x y H Q)
    {σ : L2.St} {H : Hp} {Q : VK} (h : tmX X.K (fun ρ st => ((ma ρ st).bind fun x st => (mb ρ st).bind fun y st => f x y st).bind fun g st => .ok (g, fr g) st) σ H Q) : tOp r (tmB X.K ma) (tmB X.K mb) σ H Q := by
  obtain ⟨tg, ρ, st, g, st', s, he, k⟩ := h
  obtain ⟨g', st3, he, hg⟩ := bind_ok he
  cases hg
  obtain ⟨d, st1, h1, he⟩ := bind_ok he
  obtain ⟨e, st2, h2, he⟩ := bind_ok he
  refine ⟨tg, ρ, st, d, st1, s, h1, fun tg1 x H1 e1 w1 r1 => ?_⟩
  have s1 := s.next e1 w1 r1.1
  refine ⟨tg1, ρ, st1, e, st2, s1, h2, fun tg2 y H2 e2 w2 r2 => ?_⟩
  exact hr x y H2 Q tg2 st2 d e g' st' w2 r2.1 (r1.2.ext e2) r2.2 he fun tg' v H' ex w q => k tg' v H' ((e1.trans e2).trans ex) w q
/-- one is looked at -/
theorem one_B {f : D → Sto → Res D} {r : V → Hp → VK → Prop} (fr : D → Bool)
    (hr : ∀ x H Q tg st d g st', Wf X.K H tg st → NoTmp tg → RB X.K H tg x d → f d st = .ok g st' → (∀ tg' v H', Ext H tg H' tg' → Wf X.K H' tg' st' → RX X.K H' tg' v (g, fr g) → Q v H') → r x H Q)
    {σ : L2.St} {H : Hp} {Q : VK} (h : tmX X.K (fun ρ st => ((ma ρ st).bind fun x st => f x st).bind fun g st => .ok (g, fr g) st) σ H Q) : tmB X.K ma σ H fun x H1 => r x H1 Q := by
  obtain ⟨tg, ρ, st, g, st', s, he, k⟩ := h
  obtain ⟨g', st3, he, hg⟩ := bind_ok he
  cases hg
  obtain ⟨d, st1, h1, he⟩ := bind_ok he
  refine ⟨tg, ρ, st, d, st1, s, h1, fun tg1 x H1 e1 w1 r1 => ?_⟩
  exact hr x H1 Q tg1 st1 d g' st' w1 r1.1 r1.2 he fun tg' v H' ex w q => k tg' v H' (e1.trans ex) w q
end
end Ev
set_option Elab.async false
set_option linter.all false
set_option maxRecDepth 100000
set_option maxHeartbeats 1000000
/-! Expressions: the plain machine's answer is the model's. -/
namespace Ev
open PySem PySem.Spec PyProof.Rows L2

section
variable (F : Nat → List D → Sto → Res (D × Bool)) (Γ : Nat → D)
/-- a test's answer -/
def evB (e : Ex) (ρ : Rho) (st : Sto) : Res Bool := (evE F Γ e ρ st).bind fun x st => lift (asB x) st
end
abbrev tmBs (K : PySem.W.Frag) (m : Rho → Sto → Res (List D)) : TA := tm K (fun H tg vs ds => NoTmp tg ∧ RBs K H tg vs ds) m
def tmC (K : PySem.W.Frag) (m : Rho → Sto → Res Bool) : TT := tm K (fun _ tg b d => NoTmp tg ∧ d = b) m
/-- all but the store's objects stand -/
structure Kp (H : Hp) (tg : TF) (H' : Hp) (tg' : TF) : Prop where
  keep : ∀ a o, H a = some o → (∀ l, tg a ≠ some (.loc l)) → H' a = some o ∧ tg' a = tg a
  loc : ∀ a l, tg a = some (.loc l) → tg' a = some (.loc l) ∧ H' a ≠ none
theorem Ext.kp {H H' : Hp} {tg tg' : TF} (e : Ext H tg H' tg') : Kp H tg H' tg' := ⟨e.keep, e.loc⟩
theorem Kp.le {H H' : Hp} {tg tg' : TF} (e : Kp H tg H' tg') : Le H tg H' tg' :=
  ⟨fun a o h t => let ⟨h1, t1⟩ := e.keep a o h (by rw [t]; exact fun _ z => nomatch z); ⟨h1, t1.trans t⟩, fun a l h => (e.loc a l h).1⟩
theorem Kp.trans {H H1 H2 : Hp} {tg tg1 tg2 : TF} (a : Kp H tg H1 tg1) (b : Kp H1 tg1 H2 tg2) : Kp H tg H2 tg2 where
  keep := fun x o h t => by
    obtain ⟨h1, t1⟩ := a.keep x o h t
    obtain ⟨h2, t2⟩ := b.keep x o h1 (by rw [t1]; exact t)
    exact ⟨h2, t2.trans t1⟩
  loc := fun x l h => b.loc x l (a.loc x l h).1
theorem RSl.kp {K : PySem.W.Frag} {H H' : Hp} {tg tg' : TF} {i : Nat} {x : Option (Option V)} {sl : Sl} (q : RSl K H tg i x sl) (e : Kp H tg H' tg') : RSl K H' tg' i x sl := by
  cases sl with
  | un => trivial
  | v d =>
    obtain ⟨v, e1, r⟩ := q
    exact ⟨v, e1, r.mono e.le⟩
  | own o =>
    obtain ⟨a, e1, t, r⟩ := q
    cases ha : H a with
    | none => exact absurd ha r.some
    | some u =>
      obtain ⟨h1, t1⟩ := e.keep a u ha (by rw [t]; exact fun _ z => nomatch z)
      exact ⟨a, e1, t1.trans t, r.mono e.le (h1.trans ha.symm)⟩
/-- what a walk yields -/
def WalkD (K : PySem.W.Frag) (bw : Bool) (J : It) (ds : List D) (H : Hp) (tg : TF) : Prop :=
  ∀ H1 tg1, (if bw then Kp H tg H1 tg1 else Le H tg H1 tg1) → (∀ a, H1 a = none → tg1 a = none) →
    (∀ i, i < ds.length → J.go i H1) ∧ J.stop ds.length H1 ∧ ∀ i x H2, i < ds.length → J.yld i H1 x H2 → ∃ d, ds[i]? = some d ∧ (H2 = H1 ∨ ∃ p o, H1 p = none ∧ H2 = upd H1 p o) ∧ RV K H2 tg1 x d
def tmI (K : PySem.W.Frag) (bw : Bool) (m : Rho → Sto → Res (List D)) : TI := fun σ H R =>
  ∃ tg ρ st ds st', StR K H tg st ρ σ ∧ m ρ st = .ok ds st' ∧ ∀ tg' J H', Ext H tg H' tg' → Wf K H' tg' st' → NoTmp tg' → WalkD K bw J ds H' tg' → R J H'
/-- pairs of a display -/
def flat : List (V × V) → List V
  | [] => []
  | p :: r => p.1 :: p.2 :: flat r
def tmPk (K : PySem.W.Frag) (m : Rho → Sto → Res (List D)) : L2.St → Hp → (List (V × V) → Hp → Prop) → Prop := tm K (fun H tg ps ds => NoTmp tg ∧ RVs K H tg (flat ps) ds) m
def tmPv (K : PySem.W.Frag) (m : Rho → Sto → Res (List D)) : L2.St → Hp → (V → List (V × V) → Hp → Prop) → Prop := fun σ H Q => tm K (fun H tg (p : V × List (V × V)) ds => NoTmp tg ∧ RVs K H tg (p.1 :: flat p.2) ds) m σ H fun p H => Q p.1 p.2 H
structure Snd (F : Nat → List D → Sto → Res (D × Bool)) (Γ : Nat → D) (e : Ex) : Prop where
  x : ∀ X c s, Good X c F Γ → chk e c false s = true → PE X s (tmX X.K (evX F Γ e))
  b : ∀ X c s, Good X c F Γ → chk e c true s = true → PE X s (tmB X.K (evE F Γ e))
  t : ∀ X c s, Good X c F Γ → chk e c false s = true → notIf s = true → PT X s (tmC X.K (evB F Γ e))
  a : ∀ X c s, Good X c F Γ → chks e c false s = true → PA X s (tmA X.K (evA F Γ e)) ∧ s.all notStar = true
  ab : ∀ X c s, Good X c F Γ → chks e c true s = true → PA X s (tmBs X.K (evA F Γ e)) ∧ s.all notStar = true
  and : ∀ X c s pos, Good X c F Γ → chkb e c s = true → PE X (.BoolOp .And s pos) (tmE X.K (evAnd F Γ e)) ∧ PW X (.BoolOp .And s pos) (tmC X.K fun ρ st => (evAnd F Γ e ρ st).bind fun x st => lift (asB x) st)
  or : ∀ X c s pos, Good X c F Γ → chkb e c s = true → PE X (.BoolOp .Or s pos) (tmE X.K (evOr F Γ e)) ∧ PW X (.BoolOp .Or s pos) (tmC X.K fun ρ st => (evOr F Γ e ρ st).bind fun x st => lift (asB x) st)
  ts : ∀ X c s, Good X c F Γ → chkt e c s = true → PTs X s (tmC X.K (evTs F Γ e))
  o : ∀ X c s, Good X c F Γ → chko e c s = true → PO X s (tm X.K (fun _ tg v d => NoTmp tg ∧ d = v) fun ρ st => optI e (evE F Γ e ρ st) st)
  i : ∀ X c bw s t, Good X c F Γ → chki e c bw s t = true → PI X t s (tmI X.K bw (evI F Γ e))
  pk : ∀ X c ks vs, Good X c F Γ → chkpk e c ks vs = true → ∃ trs, (∀ pos, PPs X pos ks vs trs) ∧ (∀ σ H Q, tmPk X.K (evA F Γ e) σ H Q → tPairs trs σ H Q) ∧ ks.length = vs.length ∧ ks.all (·.isSome) = true
  pv : ∀ X c ks vs, Good X c F Γ → chkpv e c ks vs = true → ∃ s vs' tv trs, vs = s :: vs' ∧ PE X s tv ∧ (∀ pos, PPs X pos ks vs' trs) ∧ (∀ σ H Q, tmPv X.K (evA F Γ e) σ H Q → tv σ H fun y H1 => tPairs trs σ H1 fun ps H2 => Q y ps H2) ∧ ks.length = vs'.length ∧ ks.all (·.isSome) = true

section
variable {F : Nat → List D → Sto → Res (D × Bool)} {Γ : Nat → D}
theorem evX_def {e : Ex} (h : ∀ f es, e ≠ .call f es) (ρ : Rho) (st : Sto) : evX F Γ e ρ st = (evE F Γ e ρ st).bind fun d st => .ok (d, frX e d) st := by
  cases e <;> first | rfl | exact absurd rfl (h _ _)
theorem evX_of {e : Ex} {ρ : Rho} {st st' : Sto} {d : D} (h : evE F Γ e ρ st = .ok d st') : ∃ fr, evX F Γ e ρ st = .ok (d, fr) st' := by
  by_cases hc : ∃ f es, e = .call f es
  · obtain ⟨f, es, rfl⟩ := hc
    have h' : ((evA F Γ es ρ st).bind fun ds st => (F f ds st).bind fun r st => .ok r.1 st) = .ok d st' := h
    obtain ⟨ds, s1, h1, h2⟩ := bind_ok h'
    obtain ⟨r, s2, h3, h4⟩ := bind_ok h2
    cases h4
    refine ⟨r.2, ?_⟩
    show ((evA F Γ es ρ st).bind fun ds st => F f ds st) = _
    rw [h1]
    exact h3
  · refine ⟨frX e d, ?_⟩
    rw [evX_def fun f es q => hc ⟨f, es, q⟩, h]
    rfl
/-- the plain forms: nothing fresh -/
theorem evX_plain {e : Ex} (hp : ∀ f es, e ≠ .call f es) (hf : ∀ d, frX e d = false) (ρ : Rho) (st : Sto) (r : D × Bool) (st' : Sto) (h : evX F Γ e ρ st = .ok r st') : r.2 = false ∧ evE F Γ e ρ st = .ok r.1 st' := by
  rw [evX_def hp] at h
  obtain ⟨d, s1, h1, h2⟩ := bind_ok h
  cases h2
  exact ⟨hf d, h1⟩
theorem Snd.e {e : Ex} (S : Snd F Γ e) {X : Cx} {c : Cc} {s : Expr} (G : Good X c F Γ) (h : chk e c false s = true) : PE X s (tmE X.K (evE F Γ e)) := pe_E (fun _ _ _ _ => evX_of) (S.x X c s G h)
/-- which syntax is tested by its value -/
def plainTest : Expr → Bool
  | .UnaryOp .Not _ _ => false
  | .BoolOp .. => false
  | .IfExp .. => false
  | .Compare .. => false
  | _ => true
theorem plain_test {s : Expr} {env : Env} (h : plainTest s = true) : ∀ whole, isTrue s env whole = (do let v ← whole; standAt s.pos; holding [v] (truthy v)) := by
  intro whole
  cases s with
  | UnaryOp op x p => cases op <;> first | rfl | exact absurd (show false = true from h) Bool.false_ne_true
  | _ => first | rfl | exact absurd (show false = true from h) Bool.false_ne_true
/-- a value as a test -/
theorem tm_test {K : PySem.W.Frag} {m : Rho → Sto → Res D} {σ : L2.St} {H : Hp} {Q : Bool → Hp → Prop} (h : tmC K (fun ρ st => (m ρ st).bind fun x st => lift (asB x) st) σ H Q) : tmE K m σ H fun x H1 => ∃ c, x = .bl c ∧ Q c H1 := by
  obtain ⟨tg, ρ, st, d, st', s, he, k⟩ := h
  obtain ⟨x, s1, h1, h2⟩ := bind_ok he
  obtain ⟨h3, rfl⟩ := lift_ok h2
  cases x with
  | bl b =>
    cases h3
    exact ⟨tg, ρ, st, .bl d, _, s, h1, fun tg' v H' e w r => ⟨d, (show RB K H' tg' v (.bl d) from .inl r.2).bl, k tg' d H' e w ⟨r.1, rfl⟩⟩⟩
  | _ => cases h3
theorem pt_E {X : Cx} {s : Expr} {m : Rho → Sto → Res D} (h : PE X s (tmE X.K m)) (hp : plainTest s = true) : PT X s (tmC X.K fun ρ st => (m ρ st).bind fun x st => lift (asB x) st) :=
  (pt_val h (plain_test hp)).mono fun _ _ _ q => tm_test q
/-- a constant, whatever the state -/
theorem tm_const {K : PySem.W.Frag} {d : D} {v : V} {m : Rho → Sto → Res D} {σ : L2.St} {H : Hp} {Q : VK} (hm : ∀ ρ st, m ρ st = .ok d st) (hv : ∀ H tg, RV K H tg v d) (h : tmE K m σ H Q) : Q v H := by
  obtain ⟨tg, ρ, st, d', st', s, he, k⟩ := h
  rw [hm] at he
  cases he
  exact k tg v H (Ext.refl s.wf.dom) s.wf ⟨s.nt, hv H tg⟩
theorem tm_var {K : PySem.W.Frag} {i : Nat} {σ : L2.St} {H : Hp} {Q : VK} (h : tmE K (evE F Γ (.var i)) σ H Q) : tVar i σ H Q := by
  obtain ⟨tg, ρ, st, d, st', s, he, k⟩ := h
  have q := s.sl i
  have he' : (match get ρ i with | .v d => Res.ok d st | _ => .bad) = .ok d st' := he
  cases hg : get ρ i with
  | v d' =>
    rw [hg] at he' q
    cases he'
    obtain ⟨v, e1, r⟩ := q
    exact ⟨v, e1, k tg v H (Ext.refl s.wf.dom) s.wf ⟨s.nt, r⟩⟩
  | un => rw [hg] at he'; cases he'
  | own o => rw [hg] at he'; cases he'
theorem tm_bor {K : PySem.W.Frag} {i : Nat} {σ : L2.St} {H : Hp} {Q : VK} (h : tmB K (evE F Γ (.bor i)) σ H Q) : tVar i σ H Q := by
  obtain ⟨tg, ρ, st, d, st', s, he, k⟩ := h
  have q := s.sl i
  have he' : (match get ρ i with | .v d => Res.ok d st | .own o => .ok o.toD st | .un => .bad) = .ok d st' := he
  cases hg : get ρ i with
  | v d' =>
    rw [hg] at he' q
    cases he'
    obtain ⟨v, e1, r⟩ := q
    exact ⟨v, e1, k tg v H (Ext.refl s.wf.dom) s.wf ⟨s.nt, .inl r⟩⟩
  | un => rw [hg] at he'; cases he'
  | own o =>
    rw [hg] at he' q
    cases he'
    obtain ⟨a, e1, t, r⟩ := q
    exact ⟨_, e1, k tg _ H (Ext.refl s.wf.dom) s.wf ⟨s.nt, .inr ⟨a, i, o, rfl, t, r, rfl⟩⟩⟩
theorem pe_name {X : Cx} {c : Cc} {i : Nat} {x : Str} {pos : Pos} (G : Good X c F Γ) (h : chkN c i x = true) : PE X (.Name x pos) (tVar i) := by
  unfold chkN okNm at h
  simp only [Bool.and_eq_true, decide_eq_true_eq] at h
  obtain ⟨⟨h1, h2⟩, ⟨h3, h4⟩, h5⟩ := h
  exact pe_var (by rw [G.nm]; exact h1) (G.vis x h2) (beq_eq_false_iff_ne.mpr h3) (beq_eq_false_iff_ne.mpr h4)
theorem chk_bw : ∀ e : Ex, (∀ i, e ≠ .bor i) → ∀ c s, chk e c true s = chk e c false s := by
  intro e h c s
  cases e <;> first | exact absurd rfl (h _) | (unfold chk; rfl)
theorem chks_no : ∀ e : Ex, e ≠ .nil → (∀ a b, e ≠ .cons a b) → ∀ c bw s, chks e c bw s = false := by
  intro e h1 h2 c bw s
  cases e <;> first | exact absurd rfl h1 | exact absurd rfl (h2 _ _) | (unfold chks; rfl)
theorem chkb_no : ∀ e : Ex, (∀ a b, e ≠ .cons a b) → ∀ c s, chkb e c s = false := by
  intro e h2 c s
  cases e <;> first | exact absurd rfl (h2 _ _) | (unfold chkb; rfl)
theorem chkt_no : ∀ e : Ex, e ≠ .nil → (∀ a b, e ≠ .cons a b) → ∀ c s, chkt e c s = false := by
  intro e h1 h2 c s
  cases e <;> first | exact absurd rfl h1 | exact absurd rfl (h2 _ _) | (unfold chkt; rfl)
theorem chkpk_no : ∀ e : Ex, e ≠ .nil → (∀ a b, e ≠ .cons a b) → ∀ c ks vs, chkpk e c ks vs = false := by
  intro e h1 h2 c ks vs
  cases e <;> first | exact absurd rfl h1 | exact absurd rfl (h2 _ _) | (unfold chkpk; rfl)
theorem chkpv_no : ∀ e : Ex, (∀ a b, e ≠ .cons a b) → ∀ c ks vs, chkpv e c ks vs = false := by
  intro e h2 c ks vs
  cases e <;> first | exact absurd rfl (h2 _ _) | (unfold chkpv; rfl)
/-- a node: what is to be shown of it -/
structure NoL (e : Ex) : Prop where
  n : e ≠ .nil
  c : ∀ a b, e ≠ .cons a b
  r : ∀ i, e ≠ .bor i
  f : ∀ f es, e ≠ .call f es
  i : ∀ c bw s t, chki e c bw s t = false
theorem Snd.node {e : Ex} (n : NoL e) (x : ∀ X c s, Good X c F Γ → chk e c false s = true → PE X s (tmX X.K (evX F Γ e)))
    (t : ∀ X c s, Good X c F Γ → chk e c false s = true → notIf s = true → PT X s (tmC X.K (evB F Γ e)))
    (o : ∀ X c s, Good X c F Γ → chko e c s = true → PO X s (tm X.K (fun _ tg v d => NoTmp tg ∧ d = v) fun ρ st => optI e (evE F Γ e ρ st) st)) : Snd F Γ e where
  x := x
  b := fun X c s G h => pe_B (pe_E (fun _ _ _ _ => evX_of) (x X c s G (by rw [← chk_bw e n.r]; exact h)))
  t := t
  a := fun X c s G h => by rw [chks_no e n.n n.c] at h; cases h
  ab := fun X c s G h => by rw [chks_no e n.n n.c] at h; cases h
  and := fun X c s p G h => by rw [chkb_no e n.c] at h; cases h
  or := fun X c s p G h => by rw [chkb_no e n.c] at h; cases h
  ts := fun X c s G h => by rw [chkt_no e n.n n.c] at h; cases h
  o := o
  i := fun X c bw s t G h => by rw [n.i] at h; cases h
  pk := fun X c ks vs G h => by rw [chkpk_no e n.n n.c] at h; cases h
  pv := fun X c ks vs G h => by rw [chkpv_no e n.c] at h; cases h
/-- .. where the test is the value's -/
theorem Snd.plain {e : Ex} (n : NoL e) (x : ∀ X c s, Good X c F Γ → chk e c false s = true → PE X s (tmX X.K (evX F Γ e)) ∧ (notIf s = true → plainTest s = true))
    (o : ∀ c s, chko e c s = false) : Snd F Γ e :=
  Snd.node n (fun X c s G h => (x X c s G h).1) (fun X c s G h hn => pt_E (pe_E (fun _ _ _ _ => evX_of) (x X c s G h).1) ((x X c s G h).2 hn)) fun X c s G h => by rw [o] at h; cases h
theorem pe_of {X : Cx} {e : Ex} {s : Expr} (hp : ∀ f es, e ≠ .call f es) (hf : ∀ d, frX e d = false) (h : PE X s (tmE X.K (evE F Γ e))) : PE X s (tmX X.K (evX F Γ e)) := pe_X (evX_plain hp hf) h
theorem po_of {X : Cx} {e : Ex} {s : Expr} (he : ∀ r st, optI e r st = r.bind fun d st => lift ((asI d).map some) st) (h : PE X s (tmE X.K (evE F Γ e))) :
    PO X (some s) (tm X.K (fun _ tg v d => NoTmp tg ∧ d = v) fun ρ st => optI e (evE F Γ e ρ st) st) := by
  have q := po_some h
  refine ⟨fun pins sh σ H Q I hw => q.run pins sh σ H Q I ?_⟩
  obtain ⟨tg, ρ, st, d, st', s', hd, k⟩ := hw
  have hd : optI e (evE F Γ e ρ st) st = .ok d st' := hd
  rw [he] at hd
  obtain ⟨x, s1, h1, h2⟩ := bind_ok hd
  obtain ⟨h3, rfl⟩ := lift_ok h2
  cases x with
  | int i => cases h3; exact ⟨tg, ρ, st, .int i, _, s', h1, fun tg' v H' ex w r => ⟨i, (show RB X.K H' tg' v (.int i) from .inl r.2).int, k tg' (some i) H' ex w ⟨r.1, rfl⟩⟩⟩
  | _ => cases h3

theorem snd_nil : Snd F Γ .nil where
  x := fun X c s G h => by cases h
  b := fun X c s G h => by cases h
  t := fun X c s G h => by cases h
  a := fun X c s G h => by
    cases s with
    | nil => exact ⟨pa_nil.mono fun σ H Q ⟨tg, ρ, st, d, st', s, he, k⟩ => by cases he; exact k tg [] H (Ext.refl s.wf.dom) s.wf ⟨s.nt, .nil⟩, rfl⟩
    | cons _ _ => cases h
  ab := fun X c s G h => by
    cases s with
    | nil => exact ⟨pa_nil.mono fun σ H Q ⟨tg, ρ, st, d, st', s, he, k⟩ => by cases he; exact k tg [] H (Ext.refl s.wf.dom) s.wf ⟨s.nt, .nil⟩, rfl⟩
    | cons _ _ => cases h
  and := fun X c s p G h => by cases h
  or := fun X c s p G h => by cases h
  ts := fun X c s G h => by
    cases s with
    | nil => exact pts_nil.mono fun σ H Q ⟨tg, ρ, st, d, st', s, he, k⟩ => by cases he; exact k tg true H (Ext.refl s.wf.dom) s.wf ⟨s.nt, rfl⟩
    | cons _ _ => cases h
  o := fun X c s G h => by
    cases s with
    | none =>
      refine ⟨fun pins sh σ H Q I hw => (po_none (X := X)).run pins sh σ H Q I ?_⟩
      obtain ⟨tg, ρ, st, d, st', s, he, k⟩ := hw
      cases he
      exact k tg none H (Ext.refl s.wf.dom) s.wf ⟨s.nt, rfl⟩
    | some _ => cases h
  i := fun X c bw s t G h => by cases h
  pk := fun X c ks vs G h => by
    unfold chkpk at h
    rw [Bool.and_eq_true] at h
    cases ks with
    | nil =>
      cases vs with
      | nil => exact ⟨[], fun pos => pps_nil, fun σ H Q ⟨tg, ρ, st, d, st', s, he, k⟩ => (by cases he; exact k tg [] H (Ext.refl s.wf.dom) s.wf ⟨s.nt, .nil⟩), rfl, rfl⟩
      | cons _ _ => cases h.2
    | cons _ _ => cases h.1
  pv := fun X c ks vs G h => by unfold chkpv at h; cases h
abbrev nol {e : Ex} (n : e ≠ .nil := by exact fun z => nomatch z) (c : ∀ a b, e ≠ .cons a b := by exact fun _ _ z => nomatch z) (r : ∀ i, e ≠ .bor i := by exact fun _ z => nomatch z)
    (f : ∀ f es, e ≠ .call f es := by exact fun _ _ z => nomatch z) (i : ∀ c bw s t, chki e c bw s t = false := by intro _ _ _ _; unfold chki; rfl) : NoL e := ⟨n, c, r, f, i⟩
theorem Snd.leaf {e : Ex} (n : NoL e) (hf : ∀ d, frX e d = false) (key : ∀ X c s, Good X c F Γ → chk e c false s = true → PE X s (tmE X.K (evE F Γ e)) ∧ (notIf s = true → plainTest s = true))
    (o : ∀ X c s, Good X c F Γ → chko e c s = true → PO X s (tm X.K (fun _ tg v d => NoTmp tg ∧ d = v) fun ρ st => optI e (evE F Γ e ρ st) st)) : Snd F Γ e :=
  Snd.node n (fun X c s G h => pe_of n.f hf (key X c s G h).1) (fun X c s G h hn => pt_E (key X c s G h).1 ((key X c s G h).2 hn)) o
theorem no_o {e : Ex} (h : ∀ c s, chko e c s = false := by intro _ _; unfold chko; rfl) : ∀ X c s, Good X c F Γ → chko e c s = true → PO X s (tm X.K (fun _ tg v d => NoTmp tg ∧ d = v) fun ρ st => optI e (evE F Γ e ρ st) st) :=
  fun X c s G q => by rw [h] at q; cases q
theorem snd_cint (i : Int) : Snd F Γ (.cint i) := by
  have key : ∀ X c s, Good X c F Γ → chk (.cint i) c false s = true → PE X s (tmE X.K (evE F Γ (.cint i))) ∧ (notIf s = true → plainTest s = true) := fun X c s G h => by
    unfold chk at h
    split at h
    · have e := eq_of_beq h
      subst e
      exact ⟨pe_int.mono fun σ H Q q => tm_const (d := .int _) (fun _ _ => rfl) (fun _ _ => .int _) q, fun _ => rfl⟩
    · cases h
  refine Snd.leaf nol (fun _ => rfl) key fun X c s G h => ?_
  unfold chko at h
  split at h
  · exact po_of (fun _ _ => rfl) (key X c _ G (by unfold chk; exact h)).1
  · cases h
theorem snd_cstr (i : Str) : Snd F Γ (.cstr i) := by
  refine Snd.leaf nol (fun _ => rfl) (fun X c s G h => ?_) no_o
  unfold chk at h
  split at h
  · have e := eq_of_beq h
    subst e
    exact ⟨pe_str.mono fun σ H Q q => tm_const (d := .str _) (fun _ _ => rfl) (fun _ _ => .str _) q, fun _ => rfl⟩
  · cases h
theorem snd_cbl (i : Bool) : Snd F Γ (.cbl i) := by
  refine Snd.leaf nol (fun _ => rfl) (fun X c s G h => ?_) no_o
  unfold chk at h
  split at h
  · have e := eq_of_beq h
    subst e
    exact ⟨pe_bl.mono fun σ H Q q => tm_const (d := .bl _) (fun _ _ => rfl) (fun _ _ => .bl _) q, fun _ => rfl⟩
  · cases h
theorem snd_cnon : Snd F Γ .cnon := by
  refine Snd.leaf nol (fun _ => rfl) (fun X c s G h => ?_) no_o
  unfold chk at h
  split at h
  · exact ⟨pe_non.mono fun σ H Q q => tm_const (d := .non) (fun _ _ => rfl) (fun _ _ => .non) q, fun _ => rfl⟩
  · cases h
theorem snd_var (i : Nat) : Snd F Γ (.var i) := by
  have key : ∀ X c s, Good X c F Γ → chk (.var i) c false s = true → PE X s (tmE X.K (evE F Γ (.var i))) ∧ (notIf s = true → plainTest s = true) := fun X c s G h => by
    unfold chk at h
    split at h
    · exact ⟨(pe_name G h).mono fun σ H Q q => tm_var q, fun _ => rfl⟩
    · cases h
  refine Snd.leaf nol (fun _ => rfl) key fun X c s G h => ?_
  unfold chko at h
  split at h
  · exact po_of (fun _ _ => rfl) (key X c _ G (by unfold chk; exact h)).1
  · cases h
theorem snd_glob (g : Nat) : Snd F Γ (.glob g) := by
  refine Snd.leaf nol (fun _ => rfl) (fun X c s G h => ?_) no_o
  unfold chk at h
  split at h
  · unfold chkG okNm at h
    simp only [Bool.and_eq_true, decide_eq_true_eq] at h
    obtain ⟨⟨h1, h2⟩, ⟨h3, h4⟩, h5⟩ := h
    obtain ⟨u, v, h6, h7, h8⟩ := G.gls _ _ h1
    exact ⟨(pe_glob (G.glo _ h2) h6 h7 (beq_eq_false_iff_ne.mpr h3)).mono fun σ H Q q => tm_const (d := Γ g) (fun _ _ => rfl) h8 q, fun _ => rfl⟩
  · cases h
theorem snd_bor (i : Nat) : Snd F Γ (.bor i) where
  x := fun X c s G h => by
    unfold chk at h
    split at h <;> cases h
  b := fun X c s G h => by
    unfold chk at h
    split at h
    · exact (pe_name G h).mono fun σ H Q q => tm_bor q
    · cases h
  t := fun X c s G h => by
    unfold chk at h
    split at h <;> cases h
  a := fun X c s G h => by unfold chks at h; cases h
  ab := fun X c s G h => by unfold chks at h; cases h
  and := fun X c s p G h => by unfold chkb at h; cases h
  or := fun X c s p G h => by unfold chkb at h; cases h
  ts := fun X c s G h => by unfold chkt at h; cases h
  o := no_o
  i := fun X c bw s t G h => by unfold chki at h; cases h
  pk := fun X c ks vs G h => by unfold chkpk at h; cases h
  pv := fun X c ks vs G h => by unfold chkpv at h; cases h
theorem snd_bad {e : Ex} (n : NoL e) (h : ∀ c s, chk e c false s = false) (o : ∀ c s, chko e c s = false) : Snd F Γ e :=
  Snd.node n (fun X c s G q => by rw [h] at q; cases q) (fun X c s G q => by rw [h] at q; cases q) fun X c s G q => by rw [o] at q; cases q
end
end Ev
set_option Elab.async false
set_option linter.all false
set_option maxRecDepth 100000
set_option maxHeartbeats 1000000
/-! Expressions: the inner nodes. -/
namespace Ev
open PySem PySem.Spec PyProof.Rows L2
section
variable {F : Nat → List D → Sto → Res (D × Bool)} {Γ : Nat → D}
theorem snd_bin {op : Bop} {a b : Ex} (Sa : Snd F Γ a) (Sb : Snd F Γ b) : Snd F Γ (.bin op a b) := by
  have key : ∀ X c l r pos, Good X c F Γ → chk a c true l = true → chk b c true r = true → PE X (.BinOp l op.op r pos) (tmX X.K (evX F Γ (.bin op a b))) := fun X c l r pos G h2 h3 => by
    refine (pe_op op_bin (Sa.b X c l G h2) (Sb.b X c r G h3)).mono fun σ H Q q => ?_
    refine two_B (f := fun x y st => lift (binD op x y) st) (frX (.bin op a b)) (fun x y H Q tg st d e g st' w nt rx ry he k => ?_) q
    obtain ⟨h4, rfl⟩ := lift_ok he
    exact ⟨tg, _, d, e, g, w, nt, rx, ry, h4, fun tg' v H' e1 w1 r1 => k tg' v H' e1 w1 (by
      have : frX (.bin op a b) g = frB op g := by cases op <;> cases g <;> rfl
      rw [this]
      exact r1)⟩
  refine Snd.node nol (fun X c s G h => ?_) (fun X c s G h hn => ?_) fun X c s G h => ?_
  · unfold chk at h
    split at h
    · simp only [Bool.and_eq_true, decide_eq_true_eq] at h
      obtain ⟨⟨rfl, h2⟩, h3⟩ := h
      exact key X c _ _ _ G h2 h3
    · cases h
  · unfold chk at h
    split at h
    · simp only [Bool.and_eq_true, decide_eq_true_eq] at h
      obtain ⟨⟨rfl, h2⟩, h3⟩ := h
      exact pt_E (pe_E (fun _ _ _ _ => evX_of) (key X c _ _ _ G h2 h3)) rfl
    · cases h
  · unfold chko at h
    split at h
    · simp only [Bool.and_eq_true, decide_eq_true_eq] at h
      obtain ⟨⟨rfl, h2⟩, h3⟩ := h
      exact po_of (fun _ _ => rfl) (pe_E (fun _ _ _ _ => evX_of) (key X c _ _ _ G h2 h3))
    · cases h
/-- a node of one operand that is looked at, the answer a plain value -/
theorem one_E {X : Cx} {e : Ex} {s : Expr} {ma : Rho → Sto → Res D} {f : D → Option D} {r : V → Hp → VK → Prop} (hp : PE X s (fun σ H Q => tmB X.K ma σ H fun x H1 => r x H1 Q))
    (hr : ∀ x H Q tg d g, RB X.K H tg x d → f d = some g → (∀ v, RV X.K H tg v g → Q v H) → r x H Q) : PE X s (tmE X.K fun ρ st => (ma ρ st).bind fun x st => lift (f x) st) :=
  hp.mono fun σ H Q ⟨tg, ρ, st, g, st', s, he, k⟩ => by
    obtain ⟨d, st1, h1, he⟩ := bind_ok he
    obtain ⟨h2, rfl⟩ := lift_ok he
    exact ⟨tg, ρ, st, d, _, s, h1, fun tg1 x H1 e1 w1 r1 => hr x H1 Q tg1 d g r1.2 h2 fun v rv => k tg1 v H1 e1 w1 ⟨r1.1, rv⟩⟩
theorem two_E {X : Cx} {s : Expr} {ma mb : Rho → Sto → Res D} {f : D → D → Option D} {r : R2} (hp : PE X s (tOp r (tmB X.K ma) (tmB X.K mb)))
    (hr : ∀ x y H Q tg d e g, RB X.K H tg x d → RB X.K H tg y e → f d e = some g → (∀ v, RV X.K H tg v g → Q v H) → r x y H Q) : PE X s (tmE X.K fun ρ st => (ma ρ st).bind fun x st => (mb ρ st).bind fun y st => lift (f x y) st) :=
  hp.mono fun σ H Q ⟨tg, ρ, st, g, st', s, he, k⟩ => by
    obtain ⟨d, st1, h1, he⟩ := bind_ok he
    obtain ⟨e, st2, h2, he⟩ := bind_ok he
    obtain ⟨h3, rfl⟩ := lift_ok he
    refine ⟨tg, ρ, st, d, st1, s, h1, fun tg1 x H1 e1 w1 r1 => ?_⟩
    exact ⟨tg1, ρ, st1, e, _, s.next e1 w1 r1.1, h2, fun tg2 y H2 e2 w2 r2 => hr x y H2 Q tg2 d e g (r1.2.ext e2) r2.2 h3 fun v rv => k tg2 v H2 (e1.trans e2) w2 ⟨r2.1, rv⟩⟩
/-- the same of a test -/
theorem two_T {X : Cx} {s : Expr} {ma mb : Rho → Sto → Res D} {f : D → D → Option Bool} {r : R2} (hp : PT X s (tTest (tOp r (tmB X.K ma) (tmB X.K mb))))
    (hr : ∀ x y H Q tg d e g, RB X.K H tg x d → RB X.K H tg y e → f d e = some g → Q (.bl g) H → r x y H Q) : PT X s (tmC X.K fun ρ st => ((ma ρ st).bind fun x st => (mb ρ st).bind fun y st => lift ((f x y).map .bl) st).bind fun x st => lift (asB x) st) :=
  hp.mono fun σ H Q ⟨tg, ρ, st, g, st', s, he, k⟩ => by
    obtain ⟨z, st3, he, h4⟩ := bind_ok he
    obtain ⟨h4, rfl⟩ := lift_ok h4
    obtain ⟨d, st1, h1, he⟩ := bind_ok he
    obtain ⟨e, st2, h2, he⟩ := bind_ok he
    obtain ⟨h3, rfl⟩ := lift_ok he
    obtain ⟨g', h5, rfl⟩ := Option.map_eq_some_iff.mp h3
    cases h4
    refine ⟨tg, ρ, st, d, st1, s, h1, fun tg1 x H1 e1 w1 r1 => ?_⟩
    exact ⟨tg1, ρ, st1, e, _, s.next e1 w1 r1.1, h2, fun tg2 y H2 e2 w2 r2 => hr x y H2 _ tg2 d e _ (r1.2.ext e2) r2.2 h5 ⟨_, rfl, k tg2 _ H2 (e1.trans e2) w2 ⟨r2.1, rfl⟩⟩⟩
theorem snd_neg {a : Ex} (Sa : Snd F Γ a) : Snd F Γ (.neg a) := by
  have key : ∀ X c x pos, Good X c F Γ → chk a c true x = true → PE X (.UnaryOp .USub x pos) (tmE X.K (evE F Γ (.neg a))) := fun X c x pos G h => by
    refine one_E (e := .neg a) (f := fun x => (asI x).map fun i => .int (-i)) (pe_un un_neg (Sa.b X c x G h)) fun x H Q tg d g rx he k => ?_
    obtain ⟨i, h1, rfl⟩ := Option.map_eq_some_iff.mp he
    cases d with
    | int j => cases h1; exact ⟨_, rx.int, k _ (.int _)⟩
    | _ => cases h1
  refine Snd.leaf nol (fun _ => rfl) (fun X c s G h => ?_) fun X c s G h => ?_
  · unfold chk at h
    split at h
    · exact ⟨key X c _ _ G h, fun _ => rfl⟩
    · cases h
  · unfold chko at h
    split at h
    · exact po_of (fun _ _ => rfl) (key X c _ _ G h)
    · cases h
theorem snd_not {a : Ex} (Sa : Snd F Γ a) : Snd F Γ (.not a) := by
  refine Snd.node nol (fun X c s G h => ?_) (fun X c s G h _ => ?_) no_o
  · unfold chk at h
    split at h
    · rw [Bool.and_eq_true] at h
      refine pe_of (fun _ _ z => nomatch z) (fun _ => rfl) ((pe_not (Sa.e G h.1)).mono fun σ H Q ⟨tg, ρ, st, g, st', s, he, k⟩ => ?_)
      obtain ⟨d, st1, h1, he⟩ := bind_ok (show ((evE F Γ a ρ st).bind fun x st => lift ((asB x).map fun b => .bl (!b)) st) = .ok g st' from he)
      obtain ⟨h2, rfl⟩ := lift_ok he
      obtain ⟨b, h3, rfl⟩ := Option.map_eq_some_iff.mp h2
      cases d with
      | bl b' => cases h3; exact ⟨tg, ρ, st, _, _, s, h1, fun tg1 x H1 e1 w1 r1 => ⟨_, (show RB X.K H1 tg1 x (.bl _) from .inl r1.2).bl, k tg1 _ H1 e1 w1 ⟨r1.1, .bl _⟩⟩⟩
      | _ => cases h3
    · cases h
  · unfold chk at h
    split at h
    · rw [Bool.and_eq_true] at h
      refine (pt_not (Sa.t X c _ G h.1 h.2)).mono fun σ H Q ⟨tg, ρ, st, g, st', s, he, k⟩ => ?_
      obtain ⟨z, st3, he, h4⟩ := bind_ok he
      obtain ⟨h4, rfl⟩ := lift_ok h4
      obtain ⟨d, st1, h1, he⟩ := bind_ok (show ((evE F Γ a ρ st).bind fun x st => lift ((asB x).map fun b => .bl (!b)) st) = .ok z _ from he)
      obtain ⟨h2, rfl⟩ := lift_ok he
      obtain ⟨b, h3, rfl⟩ := Option.map_eq_some_iff.mp h2
      cases h4
      refine ⟨tg, ρ, st, b, st', s, ?_, fun tg1 b' H1 e1 w1 r1 => ?_⟩
      · show ((evE F Γ a ρ st).bind fun x st => lift (asB x) st) = _
        rw [h1]
        show lift (asB d) _ = _
        rw [h3]
        rfl
      · obtain ⟨n1, rfl⟩ := r1
        exact k tg1 _ H1 e1 w1 ⟨n1, rfl⟩
    · cases h
theorem snd_cmp {op : Cop} {a b : Ex} (Sa : Snd F Γ a) (Sb : Snd F Γ b) : Snd F Γ (.cmp op a b) := by
  refine Snd.node nol (fun X c s G h => ?_) (fun X c s G h _ => ?_) no_o
  · unfold chk at h
    split at h
    · simp only [Bool.and_eq_true, decide_eq_true_eq] at h
      obtain ⟨⟨⟨rfl, h2⟩, h3⟩, h4⟩ := h
      refine pe_of (fun _ _ z => nomatch z) (fun _ => rfl) (two_E (f := fun x y => (cmpD op x y).map .bl) (pe_cmpR (op_cmp G.un) (Sa.b X c _ G h2) (Sb.b X c _ G h3) (no_mark h4)) fun x y H Q tg d e g rx ry he k => ?_)
      obtain ⟨z, h5, rfl⟩ := Option.map_eq_some_iff.mp he
      exact ⟨tg, d, e, z, rx, ry, h5, k _ (.bl _)⟩
    · cases h
  · unfold chk at h
    split at h
    · simp only [Bool.and_eq_true, decide_eq_true_eq] at h
      obtain ⟨⟨⟨rfl, h2⟩, h3⟩, h4⟩ := h
      exact two_T (f := cmpD op) (pt_cmpR (op_cmp G.un) (Sa.b X c _ G h2) (Sb.b X c _ G h3) (no_mark h4)) fun x y H Q tg d e g rx ry he q => ⟨tg, d, e, g, rx, ry, he, q⟩
    · cases h
/-- a chain of two -/
theorem chain_R {K : PySem.W.Frag} {p q : Cop} {ma mb mc : Rho → Sto → Res D} {σ : L2.St} {H : Hp} {Q : VK}
    (h : tmE K (fun ρ st => (ma ρ st).bind fun x st => (mb ρ st).bind fun y st => (lift (cmpD p x y) st).bind fun r st => if r then (mc ρ st).bind fun z st => lift ((cmpD q y z).map .bl) st else .ok (.bl false) st) σ H Q) :
    tChain (rCmp K p) (rCmp K q) (tmB K ma) (tmB K mb) (tmB K mc) σ H Q := by
  obtain ⟨tg, ρ, st, g, st', s, he, k⟩ := h
  obtain ⟨d, st1, h1, he⟩ := bind_ok he
  obtain ⟨e, st2, h2, he⟩ := bind_ok he
  obtain ⟨r, st3, h3', he⟩ := bind_ok he
  obtain ⟨h3, rfl⟩ := lift_ok h3'
  refine ⟨tg, ρ, st, d, st1, s, h1, fun tg1 x H1 e1 w1 r1 => ?_⟩
  refine ⟨tg1, ρ, st1, e, _, s.next e1 w1 r1.1, h2, fun tg2 y H2 e2 w2 r2 => ?_⟩
  refine ⟨tg2, d, e, r, r1.2.ext e2, r2.2, h3, r, rfl, ?_⟩
  cases r with
  | false => cases he; exact k tg2 _ H2 (e1.trans e2) w2 ⟨r2.1, .bl _⟩
  | true =>
    rw [if_pos rfl] at he
    obtain ⟨f, st4, h5, he⟩ := bind_ok he
    obtain ⟨h6, rfl⟩ := lift_ok he
    obtain ⟨z, h7, rfl⟩ := Option.map_eq_some_iff.mp h6
    exact ⟨tg2, ρ, _, f, _, (s.next e1 w1 r1.1).next e2 w2 r2.1, h5, fun tg3 v H3 e3 w3 r3 => ⟨tg3, e, f, z, r2.2.ext e3, r3.2, h7, k tg3 _ H3 ((e1.trans e2).trans e3) w3 ⟨r3.1, .bl _⟩⟩⟩
theorem chain3_R {K : PySem.W.Frag} {p q s : Cop} {ma mb mc md : Rho → Sto → Res D} {σ : L2.St} {H : Hp} {Q : VK}
    (h : tmE K (fun ρ st => (ma ρ st).bind fun x st => (mb ρ st).bind fun y st => (lift (cmpD p x y) st).bind fun r st => if r then (mc ρ st).bind fun z st => (lift (cmpD q y z) st).bind fun r2 st => if r2 then (md ρ st).bind fun w st => lift ((cmpD s z w).map .bl) st else .ok (.bl false) st else .ok (.bl false) st) σ H Q) :
    tChain3 (rCmp K p) (rCmp K q) (rCmp K s) (tmB K ma) (tmB K mb) (tmB K mc) (tmB K md) σ H Q := by
  obtain ⟨tg, ρ, st, g, st', s, he, k⟩ := h
  obtain ⟨d, st1, h1, he⟩ := bind_ok he
  obtain ⟨e, st2, h2, he⟩ := bind_ok he
  obtain ⟨r, st3, h3', he⟩ := bind_ok he
  obtain ⟨h3, rfl⟩ := lift_ok h3'
  refine ⟨tg, ρ, st, d, st1, s, h1, fun tg1 x H1 e1 w1 r1 => ?_⟩
  refine ⟨tg1, ρ, st1, e, _, s.next e1 w1 r1.1, h2, fun tg2 y H2 e2 w2 r2 => ?_⟩
  refine ⟨tg2, d, e, r, r1.2.ext e2, r2.2, h3, r, rfl, ?_⟩
  cases r with
  | false => cases he; exact k tg2 _ H2 (e1.trans e2) w2 ⟨r2.1, .bl _⟩
  | true =>
    rw [if_pos rfl] at he
    obtain ⟨f, st4, h5, he⟩ := bind_ok he
    obtain ⟨rr, st5, h6', he⟩ := bind_ok he
    obtain ⟨h6, rfl⟩ := lift_ok h6'
    refine ⟨tg2, ρ, _, f, _, (s.next e1 w1 r1.1).next e2 w2 r2.1, h5, fun tg3 v H3 e3 w3 r3 => ⟨tg3, e, f, rr, r2.2.ext e3, r3.2, h6, rr, rfl, ?_⟩⟩
    cases rr with
    | false => cases he; exact k tg3 _ H3 ((e1.trans e2).trans e3) w3 ⟨r3.1, .bl _⟩
    | true =>
      rw [if_pos rfl] at he
      obtain ⟨f2, st6, h7, he⟩ := bind_ok he
      obtain ⟨h8, rfl⟩ := lift_ok he
      obtain ⟨z, h9, rfl⟩ := Option.map_eq_some_iff.mp h8
      exact ⟨tg3, ρ, _, f2, _, ((s.next e1 w1 r1.1).next e2 w2 r2.1).next e3 w3 r3.1, h7, fun tg4 v4 H4 e4 w4 r4 => ⟨tg4, f, f2, z, r3.2.ext e4, r4.2, h9, k tg4 _ H4 (((e1.trans e2).trans e3).trans e4) w4 ⟨r4.1, .bl _⟩⟩⟩
theorem last_mark {o o' : CmpOp} {b c : Expr} (h : notSet c = true) : lastMarks [o, o'] [b, c] = false := no_mark (op := o') h
theorem snd_chain {p q : Cop} {a b d : Ex} (Sa : Snd F Γ a) (Sb : Snd F Γ b) (Sd : Snd F Γ d) : Snd F Γ (.chain p q a b d) := by
  refine Snd.node nol (fun X c s G h => ?_) (fun X c s G h _ => ?_) no_o
  · unfold chk at h
    split at h
    · simp only [Bool.and_eq_true, decide_eq_true_eq] at h
      obtain ⟨⟨⟨⟨⟨⟨rfl, rfl⟩, h2⟩, h3⟩, h4⟩, h5⟩, h6⟩ := h
      exact pe_of (fun _ _ z => nomatch z) (fun _ => rfl) ((pe_chain (op_cmp G.un) (op_cmp G.un) (Sa.b X c _ G h2) (Sb.b X c _ G h3) (Sd.b X c _ G h4) (last_mark h6)).mono fun σ H Q w => chain_R w)
    · cases h
  · unfold chk at h
    split at h
    · simp only [Bool.and_eq_true, decide_eq_true_eq] at h
      obtain ⟨⟨⟨⟨⟨⟨rfl, rfl⟩, h2⟩, h3⟩, h4⟩, h5⟩, h6⟩ := h
      exact (pt_chain (op_cmp G.un) (op_cmp G.un) (Sa.b X c _ G h2) (Sb.b X c _ G h3) (Sd.b X c _ G h4) (last_mark h6)).mono fun σ H Q w => chain_R (tm_test w)
    · cases h
theorem last_mark3 {o o' o2 : CmpOp} {b c d : Expr} (h : notSet d = true) : lastMarks [o, o', o2] [b, c, d] = false := no_mark (op := o2) h
theorem snd_chain3 {p q t : Cop} {a b d e : Ex} (Sa : Snd F Γ a) (Sb : Snd F Γ b) (Sd : Snd F Γ d) (Se : Snd F Γ e) : Snd F Γ (.chain3 p q t a b d e) := by
  refine Snd.node nol (fun X c s G h => ?_) (fun X c s G h _ => ?_) no_o
  · unfold chk at h
    split at h
    · simp only [Bool.and_eq_true, decide_eq_true_eq] at h
      obtain ⟨⟨⟨⟨⟨⟨⟨⟨⟨rfl, rfl⟩, rfl⟩, h2⟩, h3⟩, h4⟩, h5⟩, h6⟩, h7⟩, h8⟩ := h
      exact pe_of (fun _ _ z => nomatch z) (fun _ => rfl) ((pe_chain3 (op_cmp G.un) (op_cmp G.un) (op_cmp G.un) (Sa.b X c _ G h2) (Sb.b X c _ G h3) (Sd.b X c _ G h4) (Se.b X c _ G h5) (last_mark3 h8)).mono fun σ H Q w => chain3_R w)
    · cases h
  · unfold chk at h
    split at h
    · simp only [Bool.and_eq_true, decide_eq_true_eq] at h
      obtain ⟨⟨⟨⟨⟨⟨⟨⟨⟨rfl, rfl⟩, rfl⟩, h2⟩, h3⟩, h4⟩, h5⟩, h6⟩, h7⟩, h8⟩ := h
      exact (pt_chain3 (op_cmp G.un) (op_cmp G.un) (op_cmp G.un) (Sa.b X c _ G h2) (Sb.b X c _ G h3) (Sd.b X c _ G h4) (Se.b X c _ G h5) (last_mark3 h8)).mono fun σ H Q w => chain3_R (tm_test w)
    · cases h
end
end Ev
set_option Elab.async false
set_option linter.all false
set_option maxRecDepth 100000
set_option maxHeartbeats 1000000
/-! xs[::-1] of a list, of a tuple. -/
namespace Ev
open PySem PySem.Spec PyProof.Rows L2
section
variable {prog : Program} {w : World} {A : Around} {E : Value → Shared → Prop} {s : Shared}
theorem rev_adjust (n : Nat) : Builtin.Slice.sliceAdjust none none (-1) (n : Int) = ((n : Int) - 1, -1) := by
  unfold Builtin.Slice.sliceAdjust
  have h1 : (-1 : Int) < 0 := by decide
  simp only [h1, if_true]
theorem rev_places (n : Nat) : Builtin.Slice.slicePlaces ((n : Int) - 1) (-1) (-1) = n := by
  unfold Builtin.Slice.slicePlaces
  have h1 : ¬ ((-1 : Int) > 0) := by decide
  simp only [h1, if_false]
  have e : - -(1 : Int) = 1 := by decide
  simp only [e, Int.ediv_one]
  split <;> omega
theorem fm_congr {α β : Type} {f g : α → Option β} : ∀ (l : List α), (∀ x ∈ l, f x = g x) → l.filterMap f = l.filterMap g
  | [], _ => rfl
  | x :: l, h => by rw [List.filterMap_cons, List.filterMap_cons, h x (List.mem_cons_self ..), fm_congr l fun y hy => h y (List.mem_cons_of_mem _ hy)]
theorem rev_pick (xs : Array Value) : ((List.range xs.size).filterMap fun (k : Nat) => xs[((xs.size : Int) - 1 + (k : Int) * (-1)).toNat]?).toArray = xs.toList.reverse.toArray := by
  have h := PySem.W.krv_pick xs
  unfold slicePick at h
  rw [PySem.W.krv_bounds] at h
  have h : ((sliceRange ((xs.size : Int) - 1) (-1) (-1)).filterMap (xs[·]?)).toArray = xs.toList.reverse.toArray := h
  rw [PySem.W.krv_sliceRange, List.filterMap_map] at h
  rw [← h]
  congr 1
  apply fm_congr
  intro k hk
  have := List.mem_range.mp hk
  show xs[((xs.size : Int) - 1 + (k : Int) * (-1)).toNat]? = xs[xs.size - 1 - k]?
  congr 1
  omega
theorem getItem_tuple_rev {t sl : Addr} {items : Array Value} {vs : Value} {Q : Value → Shared → Prop} (ht : IsTup s.heap t items) (hs : s.heap.IsSliceOf sl .none .none vs) (ps : IsPart vs (some (-1)))
    (h : Q (.ref s.heap.objs.size) { s with heap := s.heap.push { cls := .type "tuple", data := .seq items.toList.reverse.toArray } })
    (hsz : items.size ≤ sizeLine) : wpAny (model prog w) A (getItem (.ref t) (.ref sl)) Q E s := by
  have htake : sizeOk (.seq items.toList.reverse.toArray) := by
    show items.toList.reverse.toArray.size ≤ sizeLine
    rw [List.size_toArray, List.length_reverse, Array.length_toList]
    exact hsz
  obtain ⟨os, hos, hcs, hds⟩ := id hs
  have hTs : s.TypeIs (.ref sl) "slice" := ⟨os, hos, hcs⟩
  unfold getItem
  try with_reducible refine wpAny_holding ?_
  first | refine wpAny_bind (wpAny_pure ?_) | skip
  refine wpAny_bind (wpAny_sequenceKey ht.typeIs (by decide) ?_)
  refine wpAny_bind (wpAny_callSpecial?_slot (name := Str.ofString "__getitem__") ht.typeIs PyProof.Rows.slot_tuple_getitem
    (wpAny_call_entry PyProof.Rows.slot_tuple_getitem ht.typeIs entry_tuple_getitem ?_ (args_tuple_getitem _ _)))
  show wpAny _ _ (Builtin.Tuple.tupleItemsOf (.ref t) >>= _) _ _ s
  refine wpAny_bind (tupleItemsOf_ ht ?_)
  refine wpAny_bind (wpAny_typeOf hTs ?_)
  rw [if_pos (by decide)]
  refine wpAny_bind ?_
  · unfold Builtin.Slice.sliceApplied Builtin.Slice.sliceFields
    refine wpAny_bind (wpAny_bind (wpAny_field hos hds (x := .none) rfl (wpAny_bind (wpAny_field hos hds (x := .none) rfl (wpAny_bind (wpAny_field hos hds (x := vs) rfl (wpAny_pure ?_)))))))
    refine wpAny_bind (HT.slicePart_ ps ?_)
    show wpAny _ _ (if ((-1 : Int) == 0) = true then _ else _) _ _ s
    rw [if_neg (by decide)]
    refine wpAny_bind (HT.slicePart_ .none (wpAny_bind (HT.slicePart_ .none (wpAny_bind (wpAny_pure ?_)))))
    show wpAny _ _ (match Builtin.Slice.sliceAdjust none none (-1) (items.size : Int) with | (lo, hi) => pure (lo, (-1 : Int), Builtin.Slice.slicePlaces lo hi (-1))) _ _ s
    rw [rev_adjust]
    show wpAny _ _ (pure (((items.size : Int) - 1), (-1 : Int), Builtin.Slice.slicePlaces ((items.size : Int) - 1) (-1) (-1))) _ _ s
    rw [rev_places]
    refine wpAny_pure ?_
    have hno : ¬ ((((items.size : Int) - 1) == 0 && (-1 : Int) == 1 && items.size == items.size) = true) := by
      intro q
      rw [Bool.and_eq_true, Bool.and_eq_true] at q
      exact absurd (show ((-1 : Int) == 1) = true from q.1.2) (by decide)
    show wpAny _ _ (if (((items.size : Int) - 1) == 0 && (-1 : Int) == 1 && items.size == items.size) = true then _ else _) _ _ s
    rw [if_neg hno, rev_pick]
    first
      | exact wpAny_bind (m := Builtin.Tuple.tupleExact _) (wpAny_newObj_type (wpAny_pure ⟨_, rfl, wpAny_pure h⟩) htake)
      | exact wpAny_bind (m := Builtin.Tuple.tupleExact _) (wpAny_newObj_type (wpAny_bind (wpAny_pure (wpAny_pure ⟨_, rfl, wpAny_pure h⟩))) htake)
      | exact wpAny_bind (wpAny_bind (m := Builtin.Tuple.tupleExact _) (wpAny_newObj_type (wpAny_pure (wpAny_pure ⟨_, rfl, wpAny_pure h⟩)) htake))
      | exact wpAny_bind (wpAny_bind (m := Builtin.Tuple.tupleExact _) (wpAny_newObj_type (wpAny_pure ⟨_, rfl, wpAny_pure h⟩) htake))
end
def tRevT (K : PySem.W.Frag) (te : TE) : TE := fun σ H Q => te σ H fun x H1 => ∃ a xs, x = .ref a ∧ ((SqL K H1 a xs ∧ ∀ p, H1 p = none → Q (.ref p) (upd H1 p (.lst xs.reverse))) ∨ (SqT K H1 a xs ∧ ∀ p, H1 p = none → Q (.ref p) (upd H1 p (.tup xs.reverse))))
theorem pe_revA {X : Cx} {e : Expr} {te : TE} {k : Nat} {p1 p2 p3 pos : Pos} (he : PE X e te) : PE X (.Subscript e (.Slice none none (some (.UnaryOp .USub (.Constant (.int 1) k p1) p2)) p3) pos) (tRevT X.K te) := by
  refine ⟨fun pins s σ H Q I h => ?_⟩
  refine Subscript_ (thn (he.run pins s σ H _ I h) fun v s1 ⟨x, H1, I1, r1, q1⟩ => ?_)
  obtain ⟨a, xs, ex, q⟩ := q1
  subst ex
  cases r1
  have hst : PO X (some (.UnaryOp .USub (.Constant (.int 1) k p1) p2)) (tPart (tUn (rU fun i => .int (-i)) (tC (.int 1)))) := po_some (pe_un un_neg pe_int)
  refine wpAny_Slice (thn (po_none.run pins s1 σ H1 (fun o H2 => o = none ∧ H2 = H1) I1 ⟨rfl, rfl⟩) fun vl s2 ⟨l, H2, I2, pl, el, e2⟩ => ?_)
  subst el e2
  refine thn (po_none.run pins s2 σ H2 (fun o H3 => o = none ∧ H3 = H2) I2 ⟨rfl, rfl⟩) fun vu s3 ⟨u, H3, I3, pu, eu, e3⟩ => ?_
  subst eu e3
  refine thn (hst.run pins s3 σ H3 (fun o H4 => o = some (-1) ∧ H4 = H3) I3 ⟨1, rfl, -1, rfl, rfl, rfl⟩) fun vs s4 ⟨o, H4, I4, ps, eo, e4⟩ => ?_
  subst eo e4
  have I5 : Inv X pins σ H4 { s4 with heap := s4.heap.push { cls := .type "slice", data := .fields #[vl, vu, vs] } } := I4.kept (t' := s4.toks) fun b ob q => Heap.get?_push_of_some _ q
  show wpAny (model X.prog X.w) X.A (subscriptTail e (.Slice none none (some (.UnaryOp .USub (.Constant (.int 1) k p1) p2)) p3) (.ref a) (.ref s4.heap.objs.size)) (EP X pins σ Q) X.xe { s4 with heap := s4.heap.push { cls := .type "slice", data := .fields #[vl, vu, vs] } }
  rcases q with ⟨hx, q⟩ | ⟨hx, q⟩
  · obtain ⟨its, r, ht, hz⟩ := I5.list hx
    have hlen := r.length
    refine tail_any (ops := [.ref a, .ref s4.heap.objs.size]) ht.isList.typeIs (PySem.slot_list_getitem.lookup) ?_ (by with_unfolding_all rfl)
    refine wpAny_getItem_list_slice ht.isList (Heap.IsSliceOf.new _ vl vu vs) pl pu ps (by decide) ?_ (by rw [List.size_toArray]; omega)
    rw [PySem.W.krv_pick]
    refine ⟨.ref _, _, I5.laid (t' := s4.toks) (o := .lst xs.reverse) (fun b ob q => Heap.get?_push_of_some _ q) (Nat.le_refl _) ?_, rfl, q _ (I5.hok.fresh (Nat.le_refl _))⟩
    exact ⟨by rw [List.length_reverse]; exact hz, _, 0, r.reverse, Heap.get?_push_size _ rfl⟩
  · obtain ⟨its, r, ht, hz⟩ := I5.tuple hx
    cases pl
    cases pu
    refine tail_any (ops := [.ref a, .ref s4.heap.objs.size]) ht.typeIs (PyProof.Rows.slot_tuple_getitem.lookup) ?_ (by with_unfolding_all rfl)
    refine getItem_tuple_rev ht (Heap.IsSliceOf.new _ _ _ vs) ps ?_ (by rw [List.size_toArray, ← r.length]; exact hz)
    refine ⟨.ref _, _, I5.laid (t' := s4.toks) (o := .tup xs.reverse) (fun b ob q => Heap.get?_push_of_some _ q) (Nat.le_refl _) ?_, rfl, q _ (I5.hok.fresh (Nat.le_refl _))⟩
    exact ⟨by rw [List.length_reverse]; exact hz, _, r.reverse, IsTup.new _ _⟩
end Ev
set_option Elab.async false
set_option linter.all false
set_option maxRecDepth 100000
set_option maxHeartbeats 1000000
/-! Expressions: is, and, or, displays, subscripts. -/
namespace Ev
open PySem PySem.Spec PyProof.Rows L2
section
variable {F : Nat → List D → Sto → Res (D × Bool)} {Γ : Nat → D}
def isNon : D → Bool
  | .non => true
  | _ => false
theorem RB.isNon {K : PySem.W.Frag} {H : Hp} {tg : TF} {v : V} {d : D} (r : RB K H tg v d) : decide (v = .non) = Ev.isNon d := by
  cases d with
  | non => rw [r.non]; rfl
  | _ =>
    have h : v ≠ .non := by
      intro h
      subst h
      rcases r with r | ⟨_, _, o, e, _, _, _⟩
      · cases r
      · cases e
    rw [decide_eq_false h]
    rfl
/-- one operand, a constant behind it -/
theorem isc_R {K : PySem.W.Frag} {m : Rho → Sto → Res D} {y : V} {r : R2} {f : D → Option Bool} {σ : L2.St} {H : Hp} {Q : VK}
    (hr : ∀ x H Q tg d g, RB K H tg x d → f d = some g → Q (.bl g) H → r x y H Q)
    (h : tmE K (fun ρ st => (m ρ st).bind fun x st => lift ((f x).map .bl) st) σ H Q) : tOp r (tmB K m) (tC y) σ H Q := by
  obtain ⟨tg, ρ, st, g, st', s, he, k⟩ := h
  obtain ⟨d, st1, h1, he⟩ := bind_ok he
  obtain ⟨h2, rfl⟩ := lift_ok he
  obtain ⟨b, h3, rfl⟩ := Option.map_eq_some_iff.mp h2
  exact ⟨tg, ρ, st, d, _, s, h1, fun tg1 x H1 e1 w1 r1 => hr x H1 Q tg1 d b r1.2 h3 (k tg1 _ H1 e1 w1 ⟨r1.1, .bl b⟩)⟩
def iscD (n : Bool) (c : D) (x : D) : Option Bool := match c with
  | .non => some (n != isNon x)
  | .bl b => match x with | .bl b' => some (n != (b' == b)) | _ => none
  | _ => none
theorem evE_isc {n : Bool} {a : Ex} {c : D} : evE F Γ (.isc n a c) = fun ρ st => (evE F Γ a ρ st).bind fun x st => lift ((iscD n c x).map .bl) st := by
  funext ρ st
  show (evE F Γ a ρ st).bind (fun (x : D) (st : Sto) => match c with
      | D.non => Res.ok (D.bl (n != (match x with | D.non => true | _ => false))) st
      | D.bl b => match x with
        | D.bl b' => Res.ok (D.bl (n != (b' == b))) st
        | _ => Res.bad
      | _ => Res.bad) = _
  cases evE F Γ a ρ st with
  | bad => rfl
  | ok x st1 => cases c <;> cases x <;> rfl
theorem snd_isc {n : Bool} {a : Ex} {k : D} (Sa : Snd F Γ a) : Snd F Γ (.isc n a k) := by
  have bx : ∀ b b' : Bool, decide (b' = b) = (b' == b) := by decide
  have key : ∀ X c l o j p pos, Good X c F Γ → chk a c true l = true → o = (if n then CmpOp.IsNot else CmpOp.Is) → constD k j = true → ∃ r : R2, ∃ y : V, OpR X (compareOp o) r ∧ PE X (.Constant j p pos) (tC y) ∧
      ∀ x H Q tg d g, RB X.K H tg x d → iscD n k d = some g → Q (.bl g) H → r x y H Q := by
    intro X c l o j p pos G h2 ho hk
    subst ho
    cases k with
    | non =>
      cases j with
      | none =>
        cases n with
        | true => exact ⟨_, .non, op_notN, pe_non, fun x H Q tg d g rx e q => ⟨rfl, by rw [rx.isNon]; cases e; revert q; cases Ev.isNon d <;> exact id⟩⟩
        | false => exact ⟨_, .non, op_isN, pe_non, fun x H Q tg d g rx e q => ⟨rfl, by rw [rx.isNon]; cases e; revert q; cases Ev.isNon d <;> exact id⟩⟩
      | _ => cases hk
    | bl b =>
      cases j with
      | bool b' =>
        have e := eq_of_beq (show (b == b') = true from hk)
        subst e
        cases n with
        | true =>
          refine ⟨_, .bl b, op_notBl, pe_bl, fun x H Q tg d g rx e q => ?_⟩
          cases d with
          | bl d' => cases e; exact ⟨d', b, rx.bl, rfl, by rw [bx]; revert q; cases (d' == b) <;> exact id⟩
          | _ => cases e
        | false =>
          refine ⟨_, .bl b, op_isBl, pe_bl, fun x H Q tg d g rx e q => ?_⟩
          cases d with
          | bl d' => cases e; exact ⟨d', b, rx.bl, rfl, by rw [bx]; revert q; cases (d' == b) <;> exact id⟩
          | _ => cases e
      | _ => cases hk
    | _ => cases j <;> cases hk
  refine Snd.node nol (fun X c s G h => ?_) (fun X c s G h _ => ?_) no_o
  · unfold chk at h
    split at h
    · simp only [Bool.and_eq_true, decide_eq_true_eq] at h
      obtain ⟨⟨h1, h2⟩, h3⟩ := h
      obtain ⟨r, y, ho, hy, hr⟩ := key X c _ _ _ _ _ G h2 h1 h3
      refine pe_of (fun _ _ z => nomatch z) (fun _ => rfl) ((pe_cmpR ho (Sa.b X c _ G h2) hy rfl).mono fun σ H Q w => ?_)
      rw [evE_isc] at w
      exact isc_R hr w
    · cases h
  · unfold chk at h
    split at h
    · simp only [Bool.and_eq_true, decide_eq_true_eq] at h
      obtain ⟨⟨h1, h2⟩, h3⟩ := h
      obtain ⟨r, y, ho, hy, hr⟩ := key X c _ _ _ _ _ G h2 h1 h3
      refine (pt_cmpR ho (Sa.b X c _ G h2) hy rfl).mono fun σ H Q w => ?_
      have w : tmC X.K (fun ρ st => (evE F Γ (.isc n a k) ρ st).bind fun x st => lift (asB x) st) σ H Q := w
      rw [evE_isc] at w
      exact isc_R hr (tm_test w)
    · cases h
/-! ### lists of expressions -/
theorem evA_cons {e es : Ex} {ρ : Rho} {st st' : Sto} {ds : List D} (h : evA F Γ (.cons e es) ρ st = .ok ds st') : ∃ d st1 r, evE F Γ e ρ st = .ok d st1 ∧ evA F Γ es ρ st1 = .ok r st' ∧ ds = d :: r := by
  obtain ⟨d, s1, h1, h2⟩ := bind_ok (show ((evE F Γ e ρ st).bind fun d st => (evA F Γ es ρ st).bind fun ds st => .ok (d :: ds) st) = .ok ds st' from h)
  obtain ⟨r, s2, h3, h4⟩ := bind_ok h2
  cases h4
  exact ⟨d, s1, r, h1, h3, rfl⟩
theorem snd_cons {e es : Ex} (Se : Snd F Γ e) (Ss : Snd F Γ es) : Snd F Γ (.cons e es) where
  x := fun X c s G h => by unfold chk at h; cases h
  b := fun X c s G h => by unfold chk at h; cases h
  t := fun X c s G h => by unfold chk at h; cases h
  a := fun X c s G h => by
    cases s with
    | nil => unfold chks at h; cases h
    | cons s0 ss =>
      unfold chks at h
      simp only [Bool.and_eq_true] at h
      obtain ⟨⟨h1, h2⟩, h3⟩ := h
      obtain ⟨p, q⟩ := Ss.a X c ss G h3
      refine ⟨(pa_cons (Se.e G h1) p (star_cons h2)).mono fun σ H Q ⟨tg, ρ, st, ds, st', s, he, k⟩ => ?_, by rw [List.all_cons, h2, q]; rfl⟩
      obtain ⟨d, st1, r, h4, h5, rfl⟩ := evA_cons he
      exact ⟨tg, ρ, st, d, st1, s, h4, fun tg1 x H1 e1 w1 r1 => ⟨tg1, ρ, st1, r, st', s.next e1 w1 r1.1, h5, fun tg2 xs H2 e2 w2 r2 => k tg2 (x :: xs) H2 (e1.trans e2) w2 ⟨r2.1, .cons (r1.2.mono e2.le) r2.2⟩⟩⟩
  ab := fun X c s G h => by
    cases s with
    | nil => unfold chks at h; cases h
    | cons s0 ss =>
      unfold chks at h
      simp only [Bool.and_eq_true] at h
      obtain ⟨⟨h1, h2⟩, h3⟩ := h
      obtain ⟨p, q⟩ := Ss.ab X c ss G h3
      refine ⟨(pa_cons (Se.b X c s0 G h1) p (star_cons h2)).mono fun σ H Q ⟨tg, ρ, st, ds, st', s, he, k⟩ => ?_, by rw [List.all_cons, h2, q]; rfl⟩
      obtain ⟨d, st1, r, h4, h5, rfl⟩ := evA_cons he
      exact ⟨tg, ρ, st, d, st1, s, h4, fun tg1 x H1 e1 w1 r1 => ⟨tg1, ρ, st1, r, st', s.next e1 w1 r1.1, h5, fun tg2 xs H2 e2 w2 r2 => k tg2 (x :: xs) H2 (e1.trans e2) w2 ⟨r2.1, .cons (r1.2.ext e2) r2.2⟩⟩⟩
  and := fun X c s p G h => by
    cases s with
    | nil => unfold chkb at h; cases h
    | cons s0 ss =>
      unfold chkb at h
      simp only [Bool.and_eq_true] at h
      obtain ⟨⟨h1, h2⟩, h3⟩ := h
      cases es with
      | nil =>
        cases ss with
        | nil => exact ⟨pe_one (Se.e G h1), pw_and1 (Se.t X c s0 G h1 h2)⟩
        | cons _ _ => cases h3
      | cons e' es' =>
        have h3 : chkb (.cons e' es') c ss = true := h3
        cases ss with
        | nil => unfold chkb at h3; cases h3
        | cons s1 ss =>
          obtain ⟨p1, p2⟩ := Ss.and X c (s1 :: ss) p G h3
          refine ⟨(pe_and (Se.e G h1) p1).mono fun σ H Q ⟨tg, ρ, st, g, st', s, he, k⟩ => ?_, (pw_and (Se.t X c s0 G h1 h2) p2).mono fun σ H Q ⟨tg, ρ, st, g, st', s, he, k⟩ => ?_⟩
          · obtain ⟨d, st1, h4, h5⟩ := bind_ok (show ((evE F Γ e ρ st).bind fun x st => (lift (asB x) st).bind fun c st => if c then evAnd F Γ (.cons e' es') ρ st else .ok (.bl false) st) = .ok g st' from he)
            obtain ⟨b, st2, h6, h7⟩ := bind_ok h5
            obtain ⟨h8, rfl⟩ := lift_ok h6
            cases d with
            | bl b' =>
              cases h8
              refine ⟨tg, ρ, st, .bl b, _, s, h4, fun tg1 x H1 e1 w1 r1 => ⟨b, (show RB X.K H1 tg1 x (.bl b) from .inl r1.2).bl, ?_⟩⟩
              cases b with
              | true => exact ⟨tg1, ρ, _, g, st', s.next e1 w1 r1.1, h7, fun tg2 v H2 e2 w2 r2 => k tg2 v H2 (e1.trans e2) w2 r2⟩
              | false => cases h7; exact k tg1 _ H1 e1 w1 ⟨r1.1, .bl _⟩
            | _ => cases h8
          · obtain ⟨z, st0, he, h9⟩ := bind_ok he
            obtain ⟨h9, rfl⟩ := lift_ok h9
            obtain ⟨d, st1, h4, h5⟩ := bind_ok (show ((evE F Γ e ρ st).bind fun x st => (lift (asB x) st).bind fun c st => if c then evAnd F Γ (.cons e' es') ρ st else .ok (.bl false) st) = .ok z st' from he)
            obtain ⟨b, st2, h6, h7⟩ := bind_ok h5
            refine ⟨tg, ρ, st, b, st2, s, ?_, fun tg1 b1 H1 e1 w1 r1 => ?_⟩
            · show ((evE F Γ e ρ st).bind fun x st => lift (asB x) st) = _
              rw [h4]
              exact h6
            · obtain ⟨n1, rfl⟩ := r1
              cases b with
              | true =>
                refine ⟨tg1, ρ, _, g, st', s.next e1 w1 n1, ?_, fun tg2 v H2 e2 w2 r2 => k tg2 v H2 (e1.trans e2) w2 r2⟩
                rw [if_pos rfl] at h7
                show ((evAnd F Γ (.cons e' es') ρ st2).bind fun x st => lift (asB x) st) = _
                rw [h7]
                show lift (asB z) _ = _
                rw [h9]
              | false => cases h7; cases h9; exact k tg1 _ H1 e1 w1 ⟨n1, rfl⟩
      | _ => exact (Bool.false_ne_true h3).elim
  or := fun X c s p G h => by
    cases s with
    | nil => unfold chkb at h; cases h
    | cons s0 ss =>
      unfold chkb at h
      simp only [Bool.and_eq_true] at h
      obtain ⟨⟨h1, h2⟩, h3⟩ := h
      cases es with
      | nil =>
        cases ss with
        | nil => exact ⟨pe_one (Se.e G h1), pw_or1 (Se.t X c s0 G h1 h2)⟩
        | cons _ _ => cases h3
      | cons e' es' =>
        have h3 : chkb (.cons e' es') c ss = true := h3
        cases ss with
        | nil => unfold chkb at h3; cases h3
        | cons s1 ss =>
          obtain ⟨p1, p2⟩ := Ss.or X c (s1 :: ss) p G h3
          refine ⟨(pe_or (Se.e G h1) p1).mono fun σ H Q ⟨tg, ρ, st, g, st', s, he, k⟩ => ?_, (pw_or (Se.t X c s0 G h1 h2) p2).mono fun σ H Q ⟨tg, ρ, st, g, st', s, he, k⟩ => ?_⟩
          · obtain ⟨d, st1, h4, h5⟩ := bind_ok (show ((evE F Γ e ρ st).bind fun x st => (lift (asB x) st).bind fun c st => if c then .ok (.bl true) st else evOr F Γ (.cons e' es') ρ st) = .ok g st' from he)
            obtain ⟨b, st2, h6, h7⟩ := bind_ok h5
            obtain ⟨h8, rfl⟩ := lift_ok h6
            cases d with
            | bl b' =>
              cases h8
              refine ⟨tg, ρ, st, .bl b, _, s, h4, fun tg1 x H1 e1 w1 r1 => ⟨b, (show RB X.K H1 tg1 x (.bl b) from .inl r1.2).bl, ?_⟩⟩
              cases b with
              | false => exact ⟨tg1, ρ, _, g, st', s.next e1 w1 r1.1, h7, fun tg2 v H2 e2 w2 r2 => k tg2 v H2 (e1.trans e2) w2 r2⟩
              | true => cases h7; exact k tg1 _ H1 e1 w1 ⟨r1.1, .bl _⟩
            | _ => cases h8
          · obtain ⟨z, st0, he, h9⟩ := bind_ok he
            obtain ⟨h9, rfl⟩ := lift_ok h9
            obtain ⟨d, st1, h4, h5⟩ := bind_ok (show ((evE F Γ e ρ st).bind fun x st => (lift (asB x) st).bind fun c st => if c then .ok (.bl true) st else evOr F Γ (.cons e' es') ρ st) = .ok z st' from he)
            obtain ⟨b, st2, h6, h7⟩ := bind_ok h5
            refine ⟨tg, ρ, st, b, st2, s, ?_, fun tg1 b1 H1 e1 w1 r1 => ?_⟩
            · show ((evE F Γ e ρ st).bind fun x st => lift (asB x) st) = _
              rw [h4]
              exact h6
            · obtain ⟨n1, rfl⟩ := r1
              cases b with
              | false =>
                refine ⟨tg1, ρ, _, g, st', s.next e1 w1 n1, ?_, fun tg2 v H2 e2 w2 r2 => k tg2 v H2 (e1.trans e2) w2 r2⟩
                rw [if_neg Bool.false_ne_true] at h7
                show ((evOr F Γ (.cons e' es') ρ st2).bind fun x st => lift (asB x) st) = _
                rw [h7]
                show lift (asB z) _ = _
                rw [h9]
              | true => cases h7; cases h9; exact k tg1 _ H1 e1 w1 ⟨n1, rfl⟩
      | _ => exact (Bool.false_ne_true h3).elim
  ts := fun X c s G h => by
    match s, h with
    | [], h => unfold chkt at h; cases h
    | [s0], h =>
      unfold chkt at h
      simp only [Bool.and_eq_true] at h
      obtain ⟨⟨h1, h2⟩, h3⟩ := h
      cases es with
      | nil =>
        refine (pts_one (Se.t X c s0 G h1 h2)).mono fun σ H Q ⟨tg, ρ, st, g, st', s, he, k⟩ => ?_
        obtain ⟨d, st1, h4, h5⟩ := bind_ok (show ((evE F Γ e ρ st).bind fun x st => (lift (asB x) st).bind fun c st => if c then .ok true st else .ok false st) = .ok g st' from he)
        obtain ⟨b, st2, h6, h7⟩ := bind_ok h5
        have h8 : b = g ∧ st2 = st' := by
          cases b <;> (cases h7; exact ⟨rfl, rfl⟩)
        obtain ⟨rfl, rfl⟩ := h8
        exact ⟨tg, ρ, st, b, st2, s, by
          show ((evE F Γ e ρ st).bind fun x st => lift (asB x) st) = _
          rw [h4]
          exact h6, k⟩
      | _ => cases h3
    | _ :: _ :: _, h => unfold chkt at h; cases h
  o := no_o
  i := fun X c bw s t G h => by unfold chki at h; cases h
  pk := fun X c ks vs G h => by
    cases ks with
    | nil => unfold chkpk at h; cases h
    | cons k ks =>
      cases k with
      | none => unfold chkpk at h; cases h
      | some s =>
        unfold chkpk at h
        simp only [Bool.and_eq_true] at h
        obtain ⟨sv, vs', tv, trs, rfl, h1, h2, h3, h4, h5⟩ := Ss.pv X c ks vs G h.2
        refine ⟨(tmE X.K (evE F Γ e), tv) :: trs, fun pos => pps_cons (Se.e G h.1) h1 (h2 pos), fun σ H Q ⟨tg, ρ, st, ds, st', s, he, k⟩ => ?_, by rw [List.length_cons, List.length_cons, h4], by rw [List.all_cons, h5]; rfl⟩
        obtain ⟨d, st1, r, g4, g5, rfl⟩ := evA_cons he
        refine ⟨tg, ρ, st, d, st1, s, g4, fun tg1 x H1 e1 w1 r1 => ?_⟩
        exact h3 σ H1 _ ⟨tg1, ρ, st1, r, st', s.next e1 w1 r1.1, g5, fun tg2 p H2 e2 w2 r2 => k tg2 ((x, p.1) :: p.2) H2 (e1.trans e2) w2 ⟨r2.1, .cons (r1.2.mono e2.le) r2.2⟩⟩
  pv := fun X c ks vs G h => by
    cases vs with
    | nil => unfold chkpv at h; cases h
    | cons s vs =>
      unfold chkpv at h
      simp only [Bool.and_eq_true] at h
      obtain ⟨trs, h2, h3, h4, h5⟩ := Ss.pk X c ks vs G h.2
      refine ⟨s, vs, tmE X.K (evE F Γ e), trs, rfl, Se.e G h.1, h2, fun σ H Q ⟨tg, ρ, st, ds, st', s, he, k⟩ => ?_, h4, h5⟩
      obtain ⟨d, st1, r, g4, g5, rfl⟩ := evA_cons he
      refine ⟨tg, ρ, st, d, st1, s, g4, fun tg1 x H1 e1 w1 r1 => ?_⟩
      exact h3 σ H1 _ ⟨tg1, ρ, st1, r, st', s.next e1 w1 r1.1, g5, fun tg2 ps H2 e2 w2 r2 => k tg2 (x, ps) H2 (e1.trans e2) w2 ⟨r2.1, .cons (r1.2.mono e2.le) r2.2⟩⟩
/-- a node whose test is its value -/
theorem Snd.val {e : Ex} (n : NoL e) (hf : ∀ d, frX e d = false) (x : ∀ X c s, Good X c F Γ → chk e c false s = true → PE X s (tmE X.K (evE F Γ e)) ∧ (notIf s = true → plainTest s = true)) (o : ∀ c s, chko e c s = false := by intro _ _; unfold chko; rfl) : Snd F Γ e :=
  Snd.leaf n hf x (no_o o)
theorem snd_and {es : Ex} (Ss : Snd F Γ es) : Snd F Γ (.and es) := by
  refine Snd.node nol (fun X c s G h => ?_) (fun X c s G h _ => ?_) no_o
  · unfold chk at h
    split at h
    · exact pe_of (fun _ _ z => nomatch z) (fun _ => rfl) (Ss.and X c _ _ G h).1
    · cases h
  · unfold chk at h
    split at h
    · exact PW.pt (Ss.and X c _ _ G h).2
    · cases h
theorem snd_or {es : Ex} (Ss : Snd F Γ es) : Snd F Γ (.or es) := by
  refine Snd.node nol (fun X c s G h => ?_) (fun X c s G h _ => ?_) no_o
  · unfold chk at h
    split at h
    · exact pe_of (fun _ _ z => nomatch z) (fun _ => rfl) (Ss.or X c _ _ G h).1
    · cases h
  · unfold chk at h
    split at h
    · exact PW.pt (Ss.or X c _ _ G h).2
    · cases h
theorem snd_ife {t a b : Ex} (St : Snd F Γ t) (Sa : Snd F Γ a) (Sb : Snd F Γ b) : Snd F Γ (.ife t a b) := by
  refine Snd.val nol (fun _ => rfl) (fun X c s G h => ?_)
  unfold chk at h
  split at h
  · simp only [Bool.and_eq_true] at h
    obtain ⟨⟨⟨h1, h2⟩, h3⟩, h4⟩ := h
    refine ⟨(pe_ifExp (St.t X c _ G h1 h2) (Sa.e G h3) (Sb.e G h4)).mono fun σ H Q ⟨tg, ρ, st, g, st', s, he, k⟩ => ?_, fun z => absurd (show false = true from z) Bool.false_ne_true⟩
    obtain ⟨d, st1, h4, h5⟩ := bind_ok (show ((evE F Γ t ρ st).bind fun x st => (lift (asB x) st).bind fun c st => if c then evE F Γ a ρ st else evE F Γ b ρ st) = .ok g st' from he)
    obtain ⟨q, st2, h6, h7⟩ := bind_ok h5
    refine ⟨tg, ρ, st, q, st2, s, by
      show ((evE F Γ t ρ st).bind fun x st => lift (asB x) st) = _
      rw [h4]
      exact h6, fun tg1 b1 H1 e1 w1 r1 => ?_⟩
    obtain ⟨n1, rfl⟩ := r1
    cases q with
    | true => exact ⟨tg1, ρ, st2, g, st', s.next e1 w1 n1, h7, fun tg2 v H2 e2 w2 r2 => k tg2 v H2 (e1.trans e2) w2 r2⟩
    | false => exact ⟨tg1, ρ, st2, g, st', s.next e1 w1 n1, h7, fun tg2 v H2 e2 w2 r2 => k tg2 v H2 (e1.trans e2) w2 r2⟩
  · cases h
theorem snd_tup {es : Ex} (Ss : Snd F Γ es) : Snd F Γ (.tup es) := by
  refine Snd.val nol (fun _ => rfl) (fun X c s G h => ?_)
  unfold chk at h
  split at h
  · refine ⟨(pe_tup (Ss.a X c _ G h).1).mono fun σ H Q ⟨tg, ρ, st, g, st', s, he, k⟩ => ?_, fun _ => rfl⟩
    obtain ⟨ds, st1, h1, h2⟩ := bind_ok (show ((evA F Γ es ρ st).bind fun ds st => if ds.length ≤ LIM then .ok (.tup ds) st else .bad) = .ok g st' from he)
    by_cases hl : ds.length ≤ LIM
    · rw [if_pos hl] at h2
      cases h2
      refine ⟨tg, ρ, st, ds, _, s, h1, fun tg1 xs H1 e1 w1 r1 => ⟨by rw [r1.2.length, sizeLine_eq]; exact hl, fun p hp => ?_⟩⟩
      exact rx_tup w1 r1.1 r1.2 hp fun tg2 v H2 e2 w2 r2 => k tg2 v H2 (e1.trans e2) w2 r2
    · rw [if_neg hl] at h2; cases h2
  · cases h
theorem snd_list {es : Ex} (Ss : Snd F Γ es) : Snd F Γ (.list es) := by
  refine Snd.plain nol (fun X c s G h => ?_) (by intro _ _; unfold chko; rfl)
  unfold chk at h
  split at h
  · refine ⟨(pe_lst (Ss.a X c _ G h).1).mono fun σ H Q ⟨tg, ρ, st, g, st', s, he, k⟩ => ?_, fun _ => rfl⟩
    obtain ⟨g', st2, he, h3⟩ := bind_ok (show ((evE F Γ (.list es) ρ st).bind fun d st => .ok (d, frX (.list es) d) st) = .ok g st' from he)
    obtain ⟨ds, st1, h1, h2⟩ := bind_ok (show ((evA F Γ es ρ st).bind fun ds st => if ds.length ≤ LIM then .ok (.lst ds) st else .bad) = .ok g' st2 from he)
    by_cases hl : ds.length ≤ LIM
    · rw [if_pos hl] at h2
      cases h2
      cases h3
      refine ⟨tg, ρ, st, ds, _, s, h1, fun tg1 xs H1 e1 w1 r1 => ⟨by rw [r1.2.length, sizeLine_eq]; exact hl, fun p hp => ?_⟩⟩
      exact rx_lst w1 r1.1 r1.2 hp fun tg2 v H2 e2 w2 r2 => k tg2 v H2 (e1.trans e2) w2 r2
    · rw [if_neg hl] at h2; cases h2
  · cases h
theorem snd_ix {a i : Ex} (Sa : Snd F Γ a) (Si : Snd F Γ i) : Snd F Γ (.ix a i) := by
  refine Snd.val nol (fun _ => rfl) (fun X c s G h => ?_)
  unfold chk at h
  split at h
  · simp only [Bool.and_eq_true] at h
    obtain ⟨⟨h1, h2⟩, h3⟩ := h
    exact ⟨two_E (f := atD) (pe_ix (ix_at (by have := G.un; omega)) (Sa.b X c _ G h1) (Si.b X c _ G h2) (plain_ix h3)) fun x y H Q tg d e g rx ry he k => ⟨tg, d, e, g, rx, ry, he, k⟩, fun _ => rfl⟩
  · cases h
end
end Ev
set_option Elab.async false
set_option linter.all false
set_option maxRecDepth 100000
set_option maxHeartbeats 1000000
/-! Expressions: slices, calls. -/
namespace Ev
open PySem PySem.Spec PyProof.Rows L2
section
variable {F : Nat → List D → Sto → Res (D × Bool)} {Γ : Nat → D}
theorem evX_bind {e : Ex} {ρ : Rho} {st st' : Sto} {r : D × Bool} (hp : ∀ f es, e ≠ .call f es) (h : evX F Γ e ρ st = .ok r st') : ∃ d, evE F Γ e ρ st = .ok d st' ∧ r = (d, frX e d) := by
  rw [evX_def hp] at h
  obtain ⟨d, s1, h1, h2⟩ := bind_ok h
  cases h2
  exact ⟨d, h1, rfl⟩
theorem snd_sl {a lo hi : Ex} (Sa : Snd F Γ a) (Sl : Snd F Γ lo) (Sh : Snd F Γ hi) : Snd F Γ (.sl a lo hi) := by
  refine Snd.plain nol (fun X c s G h => ?_) (by intro _ _; unfold chko; rfl)
  unfold chk at h
  split at h
  · simp only [Bool.and_eq_true] at h
    obtain ⟨⟨h1, h2⟩, h3⟩ := h
    refine ⟨(pe_slice sl_any (Sa.b X c _ G h1) (Sl.o X c _ G h2) (Sh.o X c _ G h3)).mono fun σ H Q ⟨tg, ρ, st, g, st', s, he, k⟩ => ?_, fun _ => rfl⟩
    obtain ⟨d, hd, rfl⟩ := evX_bind (by intro _ _ z; cases z) he
    obtain ⟨x, st1, h4, he⟩ := bind_ok (show ((evE F Γ a ρ st).bind fun x st => (optI lo (evE F Γ lo ρ st) st).bind fun l st => (optI hi (evE F Γ hi ρ st) st).bind fun h st => lift (slD x l h) st) = .ok d st' from hd)
    obtain ⟨l, st2, h5, he⟩ := bind_ok he
    obtain ⟨u, st3, h6, he⟩ := bind_ok he
    obtain ⟨h7, rfl⟩ := lift_ok he
    refine ⟨tg, ρ, st, x, st1, s, h4, fun tg1 v H1 e1 w1 r1 => ?_⟩
    refine ⟨tg1, ρ, st1, l, st2, s.next e1 w1 r1.1, h5, fun tg2 l' H2 e2 w2 ⟨n2, el⟩ => ?_⟩
    subst el
    refine ⟨tg2, ρ, st2, u, _, (s.next e1 w1 r1.1).next e2 w2 n2, h6, fun tg3 u' H3 e3 w3 ⟨n3, eu⟩ => ?_⟩
    subst eu
    exact ⟨tg3, _, x, d, w3, n3, r1.2.ext (e2.trans e3), h7, fun tg4 v4 H4 e4 w4 r4 => k tg4 v4 H4 (((e1.trans e2).trans e3).trans e4) w4 (by
      have : frX (.sl a lo hi) d = frS d := by cases d <;> rfl
      rw [this]; exact r4)⟩
  · cases h
theorem snd_slr {a : Ex} (Sa : Snd F Γ a) : Snd F Γ (.slr a) := by
  refine Snd.plain nol (fun X c s G h => ?_) (by intro _ _; unfold chko; rfl)
  unfold chk at h
  split at h
  · simp only [Bool.and_eq_true, beq_iff_eq] at h
    obtain ⟨h1, rfl⟩ := h
    refine ⟨(pe_revA (Sa.b X c _ G h1)).mono fun σ H Q ⟨tg, ρ, st, g, st', s, he, k⟩ => ?_, fun _ => rfl⟩
    obtain ⟨d, hd, rfl⟩ := evX_bind (by intro _ _ z; cases z) he
    obtain ⟨x, st1, h4, he⟩ := bind_ok (show ((evE F Γ a ρ st).bind fun x st => lift (slrD x) st) = .ok d st' from hd)
    obtain ⟨h7, rfl⟩ := lift_ok he
    refine ⟨tg, ρ, st, x, _, s, h4, fun tg1 v H1 e1 w1 r1 => ?_⟩
    cases x with
    | lst ds =>
      cases h7
      obtain ⟨p, xs, rfl, hp, rs⟩ := r1.2.lst
      exact ⟨p, xs, rfl, .inl ⟨SqL.of hp, fun q hq => rx_lst w1 r1.1 rs.reverse hq fun tg4 v4 H4 e4 w4 r4 => k tg4 v4 H4 (e1.trans e4) w4 r4⟩⟩
    | tup ds =>
      cases h7
      obtain ⟨p, xs, rfl, hp, rs⟩ := r1.2.tup
      exact ⟨p, xs, rfl, .inr ⟨SqT.of hp, fun q hq => rx_tup w1 r1.1 rs.reverse hq fun tg4 v4 H4 e4 w4 r4 => k tg4 v4 H4 (e1.trans e4) w4 ⟨r4.1, r4.2⟩⟩⟩
    | _ => cases h7
  · cases h
/-! ### calls of defs -/
theorem passN {X : Cx} : Passes CX0 X E0 := pass0
theorem chkG_of {c : Cc} {o : Option Str} {x : Str} (h : chkG c o x = true) : o = some x ∧ isGlo c.sc x = true ∧ (x == ("__debug__" : Str)) = false := by
  unfold chkG okNm at h
  simp only [Bool.and_eq_true, decide_eq_true_eq] at h
  obtain ⟨⟨h1, h2⟩, ⟨h3, h4⟩, h5⟩ := h
  exact ⟨h1, h2, beq_eq_false_iff_ne.mpr h3⟩
theorem snd_call {f : Nat} {es : Ex} (Ss : Snd F Γ es) : Snd F Γ (.call f es) := by
  have key : ∀ X c s, Good X c F Γ → chk (.call f es) c false s = true → PE X s (tmX X.K (evX F Γ (.call f es))) ∧ plainTest s = true := fun X c s G h => by
    unfold chk at h
    split at h
    · rw [Bool.and_eq_true] at h
      obtain ⟨h1, h2⟩ := h
      obtain ⟨h3, h4, h5⟩ := chkG_of h1
      obtain ⟨a, fd, ps, k, hm, Fn, hr, hk, hb, hl⟩ := G.fns _ _ h3
      obtain ⟨pa, hn⟩ := Ss.a X c _ G h2
      have core : ∀ {t : TA}, (∀ σ H Q, tmA X.K (evA F Γ es) σ H Q → t σ H Q) → ∀ σ H Q, tmX X.K (evX F Γ (.call f es)) σ H Q → tCall (spM X.K (F f) ps.length) [] E0 t σ H Q := by
        intro t ht σ H Q ⟨tg, ρ, st, r, st', s, he, kk⟩
        obtain ⟨ds, st1, h6, h7⟩ := bind_ok (show ((evA F Γ es ρ st).bind fun ds st => F f ds st) = .ok r st' from he)
        refine ht σ H _ ⟨tg, ρ, st, ds, st1, s, h6, fun tg1 vs H1 e1 w1 r1 => ?_⟩
        show spM X.K (F f) ps.length (vs ++ []) H1 Q E0
        rw [List.append_nil]
        exact ⟨by rw [r1.2.length]; exact hl _ _ _ _ h7, tg1, st1, ds, r, st', w1, r1.1, r1.2, h7, fun tg2 v H2 e2 w2 r2 => kk tg2 v H2 (e1.trans e2) w2 r2⟩
      rename_i args pos
      cases args with
      | nil => exact ⟨(pe_call0 Fn hr (G.glo _ h4) hm hk hb .nil passN h5).mono (core fun σ H Q ⟨tg, ρ, st, ds, st', s, he, kk⟩ => by
          cases es with
          | nil => cases he; exact kk tg [] H (Ext.refl s.wf.dom) s.wf ⟨s.nt, .nil⟩
          | _ => first | (unfold chks at h2; cases h2)), rfl⟩
      | cons a0 as =>
        rw [List.all_cons, Bool.and_eq_true] at hn
        exact ⟨(pe_call Fn hr (G.glo _ h4) hm hk hb .nil passN pa h5 (star_cons hn.1) (star_none hn.2)).mono (core fun _ _ _ q => q), rfl⟩
    · cases h
  exact {
    x := fun X c s G h => (key X c s G h).1
    b := fun X c s G h => pe_B (pe_E (fun _ _ _ _ => evX_of) (key X c s G (by rw [← chk_bw _ (by intro _ z; cases z)]; exact h)).1)
    t := fun X c s G h hn => pt_E (pe_E (fun _ _ _ _ => evX_of) (key X c s G h).1) (key X c s G h).2
    a := fun X c s G h => by unfold chks at h; cases h
    ab := fun X c s G h => by unfold chks at h; cases h
    and := fun X c s p G h => by unfold chkb at h; cases h
    or := fun X c s p G h => by unfold chkb at h; cases h
    ts := fun X c s G h => by unfold chkt at h; cases h
    o := no_o
    i := fun X c bw s t G h => by unfold chki at h; cases h
    pk := fun X c ks vs G h => by unfold chkpk at h; cases h
    pv := fun X c ks vs G h => by unfold chkpv at h; cases h }
end
end Ev
set_option Elab.async false
set_option linter.all false
set_option maxRecDepth 100000
set_option maxHeartbeats 1000000
/-! Expressions: calls of the built-in functions and types. -/
namespace Ev
open PySem PySem.Spec PyProof.Rows L2
section
variable {F : Nat → List D → Sto → Res (D × Bool)} {Γ : Nat → D}
theorem chkBt_of {c : Cc} {b x : Str} (h : chkBt c b x = true) : x = b ∧ isGlo c.sc x = true := by
  unfold chkBt at h
  simp only [Bool.and_eq_true, decide_eq_true_eq] at h
  exact h
theorem lenL {α : Type} {l : List α} (h : (l.length == 1) = true) : ∃ a, l = [a] := by
  cases l with
  | nil => cases h
  | cons a l =>
    cases l with
    | nil => exact ⟨a, rfl⟩
    | cons _ _ => simp at h
/-! ### sets of ints -/
theorem inS_len (i : Int) : ∀ xs : List Int, (inS i xs).length ≤ xs.length + 1
  | [] => Nat.le_refl _
  | j :: r => by
    unfold inS
    split
    · exact Nat.le_refl _
    · split
      · exact Nat.le_succ _
      · have := inS_len i r
        simp only [List.length_cons]
        omega
theorem ssort_len : ∀ xs : List Int, (ssort xs).length ≤ xs.length
  | [] => Nat.le_refl _
  | i :: r => by
    have h1 := inS_len i (ssort r)
    have h2 := ssort_len r
    show (inS i (ssort r)).length ≤ r.length + 1
    omega
theorem cr_setI {X : Cx} (hc : X.calm = true) : CallR X (.type "set") (fun vs H Q => ∃ (a : Addr) (ns : List Int), vs = [V.ref a] ∧ (SqL X.K H a (ns.map V.int) ∨ SqT X.K H a (ns.map V.int)) ∧ ns.length < 4000 ∧
    ∀ p, H p = none → Q (.ref p) (upd H p (SetO X.w p (fun j => decide (j ∈ ns)) (ssort ns).length))) := by
  intro pins s σ H vs us Q I r ⟨a, ns, e, hs, h64, q⟩
  subst e
  rw [Vals.ref1 r]
  have fin : ∀ (h' : Heap) (tk c : Nat), SetR X.w h' s.heap.objs.size (fun j => decide (j ∈ ns)) c → c ≤ ns.length → (∀ b o, s.heap.get? b = some o → h'.get? b = some o) → EP X pins σ Q (.ref s.heap.objs.size) { s with heap := h', toks := tk } := by
    intro h' tk c R hcn k
    have hlen : c = (ssort ns).length := by
      obtain ⟨o, es, ep, t, ho, hex, hdt, g, nd, hm2, hb, hf, hn, hr, hl2⟩ := R
      have nd2 : (ssort ns).Nodup := (ssort_asc ns).imp (fun h => Int.ne_of_lt h)
      have pm : (es.toList.map keyOf).Perm (ssort ns) := by
        refine (List.perm_ext_iff_of_nodup nd nd2).mpr fun j => ?_
        rw [← hm2 j, decide_eq_true_eq, mem_ssort]
      have := pm.length_eq
      rw [List.length_map, Array.length_toList, hn] at this
      exact this
    subst hlen
    exact ⟨.ref s.heap.objs.size, _, I.laid (t' := tk) k (Nat.le_refl _) (setO_new R), rfl, q _ (I.hok.fresh (Nat.le_refl _))⟩
  rcases hs with hs | hs
  · obtain ⟨its, rv, pt, hz⟩ := I.list hs
    exact call_set_lstI ns (I.ok.hd hc) pt.isList (ints_of_vals rv) (by unfold scanBound; omega) fin
  · obtain ⟨its, rv, pt, hz⟩ := I.tuple hs
    exact call_set_tupI ns (I.ok.hd hc) (show s.heap.IsTuple a its.toArray from pt) (ints_of_vals rv) (by unfold scanBound; omega) fin
theorem cr_lenSetI {X : Cx} : CallR X (.builtin "len") (fun vs H Q => ∃ (a : Addr) (S : Int → Bool) (n : Nat), vs = [V.ref a] ∧ H a = some (SetO X.w a S n) ∧ Q (.int n) H) := by
  intro pins s σ H vs us Q I r ⟨a, S, n, e, hs, q⟩
  subst e
  rw [Vals.ref1 r]
  obtain ⟨o, es, ep, t, ho, hex, hdt, g, nd, hm2, hb, hf, hn, hr, hl2⟩ := setO_get I hs
  exact call_len_set ho hex hdt hf (by unfold scanBound at hb; omega) ⟨.int n, H, I.tok _, ⟨_, by rw [hn]⟩, q⟩
/-! ### range(..) as an argument -/
theorem prgA {X : Cx} {args : List Expr} {ta : TA} {p pos : Pos} (hg : Gl X "range") (hm : X.mg "range" = none) (ha : PA X args ta) (hn : args.all notStar = true) (hl : (args.length == 1 || args.length == 2) = true) :
    PRg X (.Call (.Name "range" p) args [] pos) (fun σ H Q => ta σ H fun vs H1 => (∃ n, vs = [.int n] ∧ args.length = 1 ∧ Q 0 n H1) ∨ (∃ i j, vs = [.int i, .int j] ∧ args.length = 2 ∧ Q i j H1)) := by
  intro pins s σ H Q I h
  match args, hn, hl with
  | [a], hn, _ =>
    have h0 : notStar a = true := by simpa using hn
    refine Call_ (ld_blt I hg hm boot_range (PyProof.Rows.callWith_type1 (thn (ha.run pos pins s σ H _ I h) fun us s1 ⟨vs, H1, I1, r1, q1⟩ => ?_) (star_cons h0) rfl))
    rcases q1 with ⟨n, rfl, _, q⟩ | ⟨i, j, _, e, _⟩
    · cases r1 with
      | cons r rr =>
        cases rr
        obtain ⟨t, rfl⟩ := r
        exact call_range_1 ⟨_, 0, n, _, _, _, H1, rfl, IsRange.new _ _ _ _ _ _ _, I1.kept fun b u e => Heap.get?_push_of_some _ e, q⟩
    · cases e
  | [a, b], hn, _ =>
    have h0 : notStar a = true ∧ notStar b = true := by simpa using hn
    refine Call_ (ld_blt I hg hm boot_range (PyProof.Rows.callWith_type1 (thn (ha.run pos pins s σ H _ I h) fun us s1 ⟨vs, H1, I1, r1, q1⟩ => ?_) (star_cons h0.1) (by rw [star_cons h0.2]; rfl)))
    rcases q1 with ⟨n, _, e, _⟩ | ⟨i, j, rfl, _, q⟩
    · cases e
    · cases r1 with
      | cons r rr =>
        cases rr with
        | cons r' rr =>
          cases rr
          obtain ⟨t, rfl⟩ := r
          obtain ⟨t', rfl⟩ := r'
          exact call_range_2 ⟨_, i, j, _, _, _, H1, rfl, IsRange.new _ _ _ _ _ _ _, I1.kept fun b u e => Heap.get?_push_of_some _ e, q⟩
theorem rng_vals {K : PySem.W.Frag} {H : Hp} {tg : TF} : ∀ (i : Int) (n : Nat), RVs K H tg ((List.range n).map fun k => V.int (i + (k : Nat))) (rngL i 1 n) := by
  intro i n
  have e1 : ((List.range n).map fun k => V.int (i + (k : Nat))) = ((List.range n).map fun (k : Nat) => i + (k : Int)).map V.int := by rw [List.map_map]; rfl
  have e2 : rngL i 1 n = ((List.range n).map fun (k : Nat) => i + (k : Int)).map D.int := by
    unfold rngL
    rw [List.map_map]
    refine List.map_congr_left fun k _ => ?_
    show D.int (i + (k : Int) * 1) = D.int (i + (k : Int))
    rw [Int.mul_one]
  rw [e1, e2]
  exact RVs.of_ints _
theorem rngL_length (i c : Int) (n : Nat) : (rngL i c n).length = n := by unfold rngL; rw [List.length_map, List.length_range]
theorem in62_of {i : Int} (h : in62 i = true) : -(2 ^ 62) ≤ i ∧ i < 2 ^ 62 := by
  unfold in62 at h
  rw [Bool.and_eq_true, decide_eq_true_eq, decide_eq_true_eq] at h
  exact h
theorem rbs_rng {K : PySem.W.Frag} {H : Hp} {tg : TF} {vs : List V} {ds xs : List D} {m : Nat} (r : RBs K H tg vs ds) (hm : vs.length = m) (hl : (m == 1 || m == 2) = true) (e : rngD ds = some xs) (hx : xs.length ≤ LIM) {Q : Int → Int → Prop}
    (q : ∀ a b, RgOk a b → RVs K H tg (rgV a b) xs → Q a b) : (∃ n, vs = [.int n] ∧ m = 1 ∧ Q 0 n) ∨ (∃ i j, vs = [.int i, .int j] ∧ m = 2 ∧ Q i j) := by
  have one : ∀ d, ds = [d] → (∃ n, vs = [.int n] ∧ m = 1 ∧ Q 0 n) := by
    intro d hd
    subst hd
    obtain ⟨x, rfl, rx⟩ := rbs1 r
    cases d with
    | int n =>
      have e' : (if in62 n = true then some (rngL 0 1 n.toNat) else none) = some xs := e
      obtain ⟨h1, h2⟩ := if_some e'
      cases h2
      rw [rngL_length] at hx
      obtain ⟨h3, h4⟩ := in62_of h1
      refine ⟨n, by rw [rx.int], hm.symm, q 0 n ⟨by omega, by omega, h3, h4, by simpa using hx⟩ ?_⟩
      have := rng_vals (K := K) (H := H) (tg := tg) 0 n.toNat
      unfold rgV
      simpa using this
    | _ => cases e
  have two : ∀ d d', ds = [d, d'] → (∃ i j, vs = [.int i, .int j] ∧ m = 2 ∧ Q i j) := by
    intro d d' hd
    subst hd
    obtain ⟨x, y, rfl, rx, ry⟩ := rbs2 r
    cases d with
    | int i =>
      cases d' with
      | int j =>
        have e' : (if (in62 i && in62 j) = true then some (rngL i 1 (j - i).toNat) else none) = some xs := e
        obtain ⟨h1, h2⟩ := if_some e'
        cases h2
        rw [rngL_length] at hx
        rw [Bool.and_eq_true] at h1
        obtain ⟨h3, h4⟩ := in62_of h1.1
        obtain ⟨h5, h6⟩ := in62_of h1.2
        exact ⟨i, j, by rw [rx.int, ry.int], hm.symm, q i j ⟨h3, h4, h5, h6, hx⟩ (rng_vals i _)⟩
      | _ => cases e
    | _ => cases e
  match ds, r, e with
  | [], _, e => cases e
  | [d], _, _ => exact .inl (one d rfl)
  | [d, d'], _, _ => exact .inr (two d d' rfl)
  | d :: d' :: d'' :: t, r, _ =>
    have : vs.length = t.length + 3 := by
      cases r with
      | cons _ r => cases r with
        | cons _ r => cases r with
          | cons _ r => simp only [List.length_cons]; rw [Paired.length r]
    rw [this] at hm
    subst hm
    simp at hl
theorem evA_len : ∀ {es : Ex} {c : Cc} {bw : Bool} {args : List Expr} {ρ : Rho} {st st' : Sto} {ds : List D}, chks es c bw args = true → evA F Γ es ρ st = .ok ds st' → ds.length = args.length := by
  intro es
  induction es with
  | nil =>
    intro c bw args ρ st st' ds h e
    cases args with
    | nil => cases e; rfl
    | cons _ _ => cases h
  | cons e es _ ih =>
    intro c bw args ρ st st' ds h he
    cases args with
    | nil => unfold chks at h; cases h
    | cons a args =>
      unfold chks at h
      rw [Bool.and_eq_true] at h
      obtain ⟨d, s1, r, h1, h2, rfl⟩ := evA_cons he
      rw [List.length_cons, List.length_cons, ih h.2 h2]
  | _ => (intro c bw args ρ st st' ds h he; unfold chks at h; cases h)
/-! ### the nodes -/
theorem boot_of {b : Bi} {x : Str} {f : Value} (hx : b.name = some x) (hf : b.val = some f) : bootBuiltins x = some f := by
  cases b <;> cases hx <;> cases hf <;> decide +kernel
theorem Bi.val_of {b : Bi} {x : Str} (hx : b.name = some x) : ∃ f, b.val = some f ∧ ((∃ id, f = .builtin id) ∨ ∃ T, f = .type T) ∧ x ∈ bnames ∧ x ≠ "__name__" ∧ (x == ("__debug__" : Str)) = false := by
  cases b <;> cases hx <;> exact ⟨_, rfl, by first | exact .inl ⟨_, rfl⟩ | exact .inr ⟨_, rfl⟩, by decide +kernel, by decide +kernel, by decide +kernel⟩
theorem bi_R {b : Bi} {es : Ex} {X : Cx} {σ : L2.St} {H : Hp} {Q : VK} (hb : ∀ d, frX (.bi b es) d = b.fr) (h : tmX X.K (evX F Γ (.bi b es)) σ H Q) : tCB (rBi X.K b) (tmBs X.K (evA F Γ es)) σ H Q := by
  obtain ⟨tg, ρ, st, g, st', s, he, k⟩ := h
  obtain ⟨d, hd, rfl⟩ := evX_bind (by intro _ _ z; cases z) he
  obtain ⟨ds, st1, h1, h2⟩ := bind_ok (show ((evA F Γ es ρ st).bind fun ds st => lift (biD b ds) st) = .ok d st' from hd)
  obtain ⟨h3, rfl⟩ := lift_ok h2
  refine ⟨tg, ρ, st, ds, _, s, h1, fun tg1 vs H1 e1 w1 r1 => ?_⟩
  exact ⟨tg1, _, ds, d, w1, r1.1, r1.2, h3, fun tg2 v H2 e2 w2 r2 => k tg2 v H2 (e1.trans e2) w2 (by rw [hb]; exact r2)⟩
/-- the inner heap with a set that is dropped -/
theorem set_R {es : Ex} {X : Cx} {σ : L2.St} {H : Hp} {Q : VK} {b : Bi} (hb : b = .sset ∨ b = .lenset) (h : tmX X.K (evX F Γ (.bi b es)) σ H Q) :
    tmBs X.K (evA F Γ es) σ H fun vs H1 => ∃ (a : Addr) (ns : List Int), vs = [V.ref a] ∧ (SqL X.K H1 a (ns.map V.int) ∨ SqT X.K H1 a (ns.map V.int)) ∧ ns.length < 4000 ∧
      ∀ p, H1 p = none → (b = .sset → (ssort ns).length < 64 ∧ ∀ q, (upd H1 p (SetO X.w p (fun j => decide (j ∈ ns)) (ssort ns).length)) q = none → Q (.ref q) (upd (upd H1 p (SetO X.w p (fun j => decide (j ∈ ns)) (ssort ns).length)) q (.lst ((ssort ns).map V.int)))) ∧
        (b = .lenset → Q (.int (ssort ns).length) (upd H1 p (SetO X.w p (fun j => decide (j ∈ ns)) (ssort ns).length))) := by
  obtain ⟨tg, ρ, st, g, st', s, he, k⟩ := h
  obtain ⟨d, hd, rfl⟩ := evX_bind (by intro _ _ z; cases z) he
  obtain ⟨ds, st1, h1, h2⟩ := bind_ok (show ((evA F Γ es ρ st).bind fun ds st => lift (biD b ds) st) = .ok d st' from hd)
  obtain ⟨h3, rfl⟩ := lift_ok h2
  refine ⟨tg, ρ, st, ds, _, s, h1, fun tg1 vs H1 e1 w1 r1 => ?_⟩
  have one : ∃ d0, ds = [d0] := by
    rcases hb with rfl | rfl <;> (cases ds with
      | nil => cases h3
      | cons d0 ds => cases ds with
        | nil => exact ⟨d0, rfl⟩
        | cons _ _ => cases h3)
  obtain ⟨d0, rfl⟩ := one
  obtain ⟨x, rfl, rx⟩ := rbs1 r1.2
  have key : ∃ ds ns, Ev.elems d0 = some ds ∧ intsD ds = some ns ∧ ns.length < 4000 ∧ (b = .sset → d = .lst ((ssort ns).map .int) ∧ (ssort ns).length < 64) ∧ (b = .lenset → d = .int (ssort ns).length) := by
    rcases hb with rfl | rfl
    · obtain ⟨ds, h4, h5⟩ := Option.bind_eq_some_iff.mp (show ((Ev.elems d0).bind fun ds => (intsD ds).bind fun ns => if ns.length < 4000 ∧ (ssort ns).length < 64 then some (.lst ((ssort ns).map .int)) else none) = some d from h3)
      obtain ⟨ns, h6, h7⟩ := Option.bind_eq_some_iff.mp h5
      obtain ⟨h8, h9⟩ := if_some h7
      exact ⟨ds, ns, h4, h6, h8.1, fun _ => ⟨(Option.some.inj h9).symm, h8.2⟩, fun z => nomatch z⟩
    · obtain ⟨ds, h4, h5⟩ := Option.bind_eq_some_iff.mp (show ((Ev.elems d0).bind fun ds => (intsD ds).bind fun ns => if ns.length < 4000 then some (.int (ssort ns).length) else none) = some d from h3)
      obtain ⟨ns, h6, h7⟩ := Option.bind_eq_some_iff.mp h5
      obtain ⟨h8, h9⟩ := if_some h7
      exact ⟨ds, ns, h4, h6, h8, (fun z => nomatch z), fun _ => (Option.some.inj h9).symm⟩
  obtain ⟨ds, ns, h4, h5, h6, h7, h8⟩ := key
  obtain ⟨a, rfl, hs⟩ := rx.intsL h4 h5
  refine ⟨a, ns, rfl, hs, h6, fun p hp => ⟨fun hb => ⟨(h7 hb).2, fun q hq => ?_⟩, fun hb => ?_⟩⟩
  · have ed := (h7 hb).1
    subst hb ed
    refine rx_lst (w1.new hp) r1.1 (RVs.of_ints _) hq fun tg2 v H2 e2 w2 r2 => k tg2 v H2 ((e1.trans (Ext.new w1.dom hp)).trans e2) w2 r2
  · have ed := h8 hb
    subst hb ed
    exact k tg1 _ _ (e1.trans (Ext.new w1.dom hp)) (w1.new hp) ⟨r1.1, .int _⟩
theorem boot_setT : bootBuiltins "set" = some (.type "set") := by decide +kernel
theorem boot_sortedB : bootBuiltins "sorted" = some (.builtin "sorted") := by decide +kernel
theorem boot_lenB : bootBuiltins "len" = some (.builtin "len") := by decide +kernel
theorem snd_bi {b : Bi} {es : Ex} (Ss : Snd F Γ es) : Snd F Γ (.bi b es) := by
  have plain : ∀ X c s, Good X c F Γ → (match s with | .Call (.Name x _) args [] _ => decide (b.name = some x) && isGlo c.sc x && chks es c true args && !args.isEmpty | _ => false) = true → (∀ d, frX (.bi b es) d = b.fr) →
      PE X s (tmX X.K (evX F Γ (.bi b es))) ∧ (notIf s = true → plainTest s = true) := fun X c s G h hb => by
    split at h
    · simp only [Bool.and_eq_true, decide_eq_true_eq] at h
      obtain ⟨⟨⟨h1, h2⟩, h3⟩, h4⟩ := h
      obtain ⟨f, h5, h6, h7, h8, h9⟩ := Bi.val_of h1
      have hv := boot_of h1 h5
      obtain ⟨pa, hn⟩ := Ss.ab X c _ G h3
      rename_i args pos
      cases args with
      | nil => cases h4
      | cons a0 as =>
        rw [List.all_cons, Bool.and_eq_true] at hn
        refine ⟨?_, fun _ => rfl⟩
        rcases h6 with ⟨id, rfl⟩ | ⟨T, rfl⟩
        · exact (pe_callB (cr_bi G.calm h5) (G.glo _ h2) (G.bl _ h7) hv pa h8 h9 (star_cons hn.1) (star_none hn.2)).mono fun σ H Q w => bi_R hb w
        · exact (pe_callTy (cr_bi G.calm h5) (G.glo _ h2) (G.bl _ h7) hv pa h8 h9 (star_cons hn.1) (star_none hn.2)).mono fun σ H Q w => bi_R hb w
    · cases h
  refine Snd.plain nol (fun X c s G h => ?_) (by intro _ _; unfold chko; rfl)
  unfold chk at h
  cases b with
  | sset =>
    have h : (match (generalizing := false) s with
      | .Call (.Name x _) [.Call (.Name y _) args [] _] [] _ => chkBt c "sorted" x && chkBt c "set" y && chks es c true args && args.length == 1
      | _ => false) = true := h
    split at h
    · simp only [Bool.and_eq_true] at h
      obtain ⟨⟨⟨h1, h2⟩, h3⟩, h4⟩ := h
      obtain ⟨a0, rfl⟩ := lenL h4
      obtain ⟨rfl, g1⟩ := chkBt_of h1
      obtain ⟨rfl, g2⟩ := chkBt_of h2
      obtain ⟨pa, hn⟩ := Ss.ab X c _ G h3
      rw [List.all_cons, Bool.and_eq_true] at hn
      refine ⟨(pe_callB (cr_sortedSet G.calm) (G.glo _ g1) (G.bl _ (by decide +kernel)) boot_sortedB (pa_cons (pe_callTy (cr_setI G.calm) (G.glo _ g2) (G.bl _ (by decide +kernel)) boot_setT pa (he := star_cons hn.1)) pa_nil)).mono fun σ H Q w => ?_, fun _ => rfl⟩
      obtain ⟨tg, ρ, st, g, st', s, he, k⟩ := set_R (.inl rfl) w
      refine ⟨tg, ρ, st, g, st', s, he, fun tg1 vs H1 e1 w1 r1 => ?_⟩
      obtain ⟨a, ns, rfl, hs, h64, q⟩ := k tg1 vs H1 e1 w1 r1
      refine ⟨a, ns, rfl, hs, h64, fun p hp => ?_⟩
      refine ⟨p, _, _, rfl, upd_same, ?_, fun ms q' hs' hm hl hq => ?_⟩
      · exact ((q p hp).1 rfl).1
      · have : ms = ssort ns := sasc_unique hs' (ssort_asc ns) fun k => by rw [hm k, decide_eq_true_eq, mem_ssort]
        subst this
        exact ((q p hp).1 rfl).2 q' hq
    · cases h
  | lenset =>
    have h : (match (generalizing := false) s with
      | .Call (.Name x _) [.Call (.Name y _) args [] _] [] _ => chkBt c "len" x && chkBt c "set" y && chks es c true args && args.length == 1
      | _ => false) = true := h
    split at h
    · simp only [Bool.and_eq_true] at h
      obtain ⟨⟨⟨h1, h2⟩, h3⟩, h4⟩ := h
      obtain ⟨a0, rfl⟩ := lenL h4
      obtain ⟨rfl, g1⟩ := chkBt_of h1
      obtain ⟨rfl, g2⟩ := chkBt_of h2
      obtain ⟨pa, hn⟩ := Ss.ab X c _ G h3
      rw [List.all_cons, Bool.and_eq_true] at hn
      refine ⟨(pe_callB cr_lenSetI (G.glo _ g1) (G.bl _ (by decide +kernel)) boot_lenB (pa_cons (pe_callTy (cr_setI G.calm) (G.glo _ g2) (G.bl _ (by decide +kernel)) boot_setT pa (he := star_cons hn.1)) pa_nil)).mono fun σ H Q w => ?_, fun _ => rfl⟩
      obtain ⟨tg, ρ, st, g, st', s, he, k⟩ := set_R (.inr rfl) w
      refine ⟨tg, ρ, st, g, st', s, he, fun tg1 vs H1 e1 w1 r1 => ?_⟩
      obtain ⟨a, ns, rfl, hs, h64, q⟩ := k tg1 vs H1 e1 w1 r1
      refine ⟨a, ns, rfl, hs, h64, fun p hp => ?_⟩
      exact ⟨p, _, _, rfl, upd_same, (q p hp).2 rfl⟩
    · cases h
  | listrng =>
    have h : (match (generalizing := false) s with
      | .Call (.Name x _) [.Call (.Name y _) args [] _] [] _ => chkBt c "list" x && chkBt c "range" y && chks es c true args && (args.length == 1 || args.length == 2)
      | _ => false) = true := h
    split at h
    · simp only [Bool.and_eq_true] at h
      obtain ⟨⟨⟨h1, h2⟩, h3⟩, h4⟩ := h
      obtain ⟨rfl, g1⟩ := chkBt_of h1
      obtain ⟨rfl, g2⟩ := chkBt_of h2
      obtain ⟨pa, hn⟩ := Ss.ab X c _ G h3
      refine ⟨(pe_listRg G.calm (G.glo _ g1) (G.bl _ (by decide +kernel)) (prgA (G.glo _ g2) (G.bl _ (by decide +kernel)) pa hn h4)).mono fun σ H Q ⟨tg, ρ, st, g, st', s, he, k⟩ => ?_, fun _ => rfl⟩
      obtain ⟨d, hd, rfl⟩ := evX_bind (by intro _ _ z; cases z) he
      obtain ⟨ds, st1, h5, h6⟩ := bind_ok (show ((evA F Γ es ρ st).bind fun ds st => lift ((rngD ds).bind fun xs => if xs.length ≤ LIM then some (.lst xs) else none) st) = .ok d st' from hd)
      obtain ⟨h7, rfl⟩ := lift_ok h6
      obtain ⟨xs, h8, h9⟩ := Option.bind_eq_some_iff.mp h7
      obtain ⟨h10, h11⟩ := if_some h9
      cases h11
      have hlen := evA_len h3 h5
      refine ⟨tg, ρ, st, ds, _, s, h5, fun tg1 vs H1 e1 w1 r1 => ?_⟩
      exact rbs_rng (Q := fun a b => RgOk a b ∧ ∀ q, H1 q = none → Q (.ref q) (upd H1 q (.lst (rgV a b)))) r1.2 ((Paired.length r1.2).trans hlen) h4 h8 h10 fun a b ok rv => ⟨ok, fun q hq => rx_lst w1 r1.1 rv hq fun tg2 v H2 e2 w2 r2 => k tg2 v H2 (e1.trans e2) w2 r2⟩
    · cases h
  | tuprng =>
    have h : (match (generalizing := false) s with
      | .Call (.Name x _) [.Call (.Name y _) args [] _] [] _ => chkBt c "tuple" x && chkBt c "range" y && chks es c true args && (args.length == 1 || args.length == 2)
      | _ => false) = true := h
    split at h
    · simp only [Bool.and_eq_true] at h
      obtain ⟨⟨⟨h1, h2⟩, h3⟩, h4⟩ := h
      obtain ⟨rfl, g1⟩ := chkBt_of h1
      obtain ⟨rfl, g2⟩ := chkBt_of h2
      obtain ⟨pa, hn⟩ := Ss.ab X c _ G h3
      refine ⟨(pe_tupRg G.calm (G.glo _ g1) (G.bl _ (by decide +kernel)) (prgA (G.glo _ g2) (G.bl _ (by decide +kernel)) pa hn h4)).mono fun σ H Q ⟨tg, ρ, st, g, st', s, he, k⟩ => ?_, fun _ => rfl⟩
      obtain ⟨d, hd, rfl⟩ := evX_bind (by intro _ _ z; cases z) he
      obtain ⟨ds, st1, h5, h6⟩ := bind_ok (show ((evA F Γ es ρ st).bind fun ds st => lift ((rngD ds).bind fun xs => if xs.length ≤ LIM then some (.tup xs) else none) st) = .ok d st' from hd)
      obtain ⟨h7, rfl⟩ := lift_ok h6
      obtain ⟨xs, h8, h9⟩ := Option.bind_eq_some_iff.mp h7
      obtain ⟨h10, h11⟩ := if_some h9
      cases h11
      have hlen := evA_len h3 h5
      refine ⟨tg, ρ, st, ds, _, s, h5, fun tg1 vs H1 e1 w1 r1 => ?_⟩
      exact rbs_rng (Q := fun a b => RgOk a b ∧ ∀ q, H1 q = none → Q (.ref q) (upd H1 q (.tup (rgV a b)))) r1.2 ((Paired.length r1.2).trans hlen) h4 h8 h10 fun a b ok rv => ⟨ok, fun q hq => rx_tup w1 r1.1 rv hq fun tg2 v H2 e2 w2 r2 => k tg2 v H2 (e1.trans e2) w2 ⟨r2.1, r2.2⟩⟩
    · cases h
  | _ => exact plain X c s G h (fun _ => rfl)
/-! ### list(d.values()) -/
theorem RVk.vals {K : PySem.W.Frag} {H : Hp} {tg : TF} : ∀ {kvs : List (D × D)} {ks : List (Key × V)}, RVk K H tg ks kvs → RVs K H tg (ks.map (·.2)) (kvs.map (·.2))
  | [], _, h => by cases h; exact .nil
  | _ :: _, _, h => by
    cases h with
    | cons h r => exact .cons h (RVk.vals r)
theorem snd_lvals {a : Ex} (Sa : Snd F Γ a) : Snd F Γ (.lvals a) := by
  refine Snd.plain nol (fun X c s G h => ?_) (by intro _ _; unfold chko; rfl)
  unfold chk at h
  split at h
  · simp only [Bool.and_eq_true, decide_eq_true_eq] at h
    obtain ⟨⟨⟨⟨h1, rfl⟩, h3⟩, h4⟩, h5⟩ := h
    rename_i x px v apos cpos pos
    obtain ⟨rfl, g1⟩ := chkBt_of h1
    have hb : attributeBase v "values" X.env (eval v X.env) = eval v X.env := by cases v <;> first | rfl | cases h5
    refine ⟨(pe_listVals G.calm (Sa.b X c _ G h3) (G.glo _ g1) (G.bl _ (by decide +kernel)) boot_list hb h4).mono fun σ H Q ⟨tg, ρ, st, g, st', s, he, k⟩ => ?_, fun _ => rfl⟩
    obtain ⟨d, hd, rfl⟩ := evX_bind (by intro _ _ z; cases z) he
    obtain ⟨x, st1, h6, h7⟩ := bind_ok (show ((evE F Γ a ρ st).bind fun x st => match x with
      | .dct false kvs => Res.ok (D.lst (kvs.map (·.2))) st
      | _ => .bad) = .ok d st' from hd)
    cases x with
    | dct kd kvs =>
      cases kd with
      | true => cases h7
      | false =>
        cases h7
        refine ⟨tg, ρ, st, _, _, s, h6, fun tg1 v H1 e1 w1 r1 => ?_⟩
        obtain ⟨p, ks, rfl, hp, rk⟩ := r1.2.dK
        exact ⟨p, ks, rfl, hp, fun _ q hq => rx_lst w1 r1.1 rk.vals hq fun tg2 v H2 e2 w2 r2 => k tg2 v H2 (e1.trans e2) w2 r2⟩
    | _ => cases h7
  · cases h
/-! ### isinstance -/
theorem boot_isiB : bootBuiltins "isinstance" = some (.builtin "isinstance") := by decide +kernel
theorem Ty.boot : ∀ t : Ty, bootBuiltins t.pname = some (.type t.name) ∧ t.pname ∈ bnames ∧ t.pname ≠ "__name__" ∧ (t.pname == ("__debug__" : Str)) = false := by
  intro t
  cases t <;> exact ⟨by decide +kernel, by decide +kernel, by decide +kernel, by decide +kernel⟩
theorem snd_isi {a : Ex} {t : Ty} (Sa : Snd F Γ a) : Snd F Γ (.isi a t) := by
  refine Snd.val nol (fun _ => rfl) (fun X c s G h => ?_)
  unfold chk at h
  split at h
  · simp only [Bool.and_eq_true] at h
    obtain ⟨⟨⟨h1, h2⟩, h3⟩, h4⟩ := h
    obtain ⟨rfl, g1⟩ := chkBt_of h1
    obtain ⟨rfl, g2⟩ := chkBt_of h2
    obtain ⟨b1, b2, b3, b4⟩ := t.boot
    refine ⟨(pe_callB (call_is (t := t)) (G.glo _ g1) (G.bl _ (by decide +kernel)) boot_isiB (pa_cons (Sa.b X c _ G h3) (pa_cons (pe_bltn (v := .ty t.name) (G.glo _ g2) (G.bl _ b2) b1 rfl b3 b4) pa_nil) (star_cons h4)) (he := star_cons h4)).mono fun σ H Q ⟨tg, ρ, st, g, st', s, he, k⟩ => ?_, fun _ => rfl⟩
    obtain ⟨x, st1, h5, h6⟩ := bind_ok (show ((evE F Γ a ρ st).bind fun x st => lift ((isD t x).map .bl) st) = .ok g st' from he)
    obtain ⟨h7, rfl⟩ := lift_ok h6
    obtain ⟨b, h8, rfl⟩ := Option.map_eq_some_iff.mp h7
    exact ⟨tg, ρ, st, x, _, s, h5, fun tg1 v H1 e1 w1 r1 => ⟨tg1, v, x, b, rfl, r1.2, h8, k tg1 _ H1 e1 w1 ⟨r1.1, .bl _⟩⟩⟩
  · cases h
end
end Ev
set_option Elab.async false
set_option linter.all false
set_option maxRecDepth 100000
set_option maxHeartbeats 1000000
/-! Expressions: what the store's objects hold. -/
namespace Ev
open PySem PySem.Spec PyProof.Rows L2
theorem dget_ofR {K : PySem.W.Frag} {H : Hp} {tg : TF} {a : Addr} {y : V} {kd : Bool} {kvs : List (D × D)} {b : D} (ro : ROr K H tg a (.dct kd kvs)) (ry : RB K H tg y b) (h : keyD kd b = true) :
    ∃ o, DGet H a y o ∧ ((o = none ∧ dlook b kvs = none) ∨ ∃ v d, o = some v ∧ dlook b kvs = some d ∧ RV K H tg v d) := by
  cases kd with
  | false =>
    obtain ⟨ks, hx, rs⟩ := ro
    obtain ⟨ky, rfl, rfl⟩ := key_k ry h
    exact ⟨_, .inl ⟨_, _, hx, rfl, rfl⟩, look_k ky rs⟩
  | true =>
    obtain ⟨ks, hx, rs⟩ := ro
    obtain ⟨ky, q, rfl, hq, rfl⟩ := key_t ry h
    exact ⟨_, DGet.t hx hq, look_t ky rs⟩
theorem dget_ofO {K : PySem.W.Frag} {H : Hp} {tg : TF} {a : Addr} {y : V} {kd : Bool} {kvs : List (D × D)} {b : D} (ro : RO K H tg a (.dct kd kvs)) (ry : RB K H tg y b) (h : keyD kd b = true) :
    ∃ o, DGet H a y o ∧ ((o = none ∧ dlook b kvs = none) ∨ ∃ v d, o = some v ∧ dlook b kvs = some d ∧ RV K H tg v d) := dget_ofR ro.r ry h
def rAtO (K : PySem.W.Frag) : R2 := fun x y H Q => ∃ tg a o b d, x = .ref a ∧ RO K H tg a o ∧ RB K H tg y b ∧ atD o.toD b = some d ∧ ∀ v, RV K H tg v d → Q v H
theorem ix_atO {X : Cx} (hu : X.A.units + 1 < cLine) : IxR X (rAtO X.K) := by
  intro value slice pins s σ H x y v u Q I rx ry ⟨tg, a, o, b, d, ex, ro, rb, e, q⟩ hs
  subst ex
  cases o with
  | lst ds =>
    cases b with
    | int i =>
      obtain ⟨xs, hx, rs⟩ := ro
      obtain ⟨j, h1, h2⟩ := Option.bind_eq_some_iff.mp (show ((ixD ds.length i).bind fun j => ds[j]?) = some d from e)
      obtain ⟨w, hw, rw'⟩ := rs.get h2
      rw [← rs.length] at h1
      have hy := rb.int
      subst hy
      exact ix_list value slice pins s σ H _ _ v u Q I rx ry ⟨a, xs, i, w, rfl, rfl, SqL.of hx, ixD_atI h1 hw, q w rw'⟩ hs
    | _ => cases e
  | dct k kvs =>
    obtain ⟨h, e⟩ := if_some (show (if keyD k b = true then dlook b kvs else none) = some d from e)
    obtain ⟨o, g, r⟩ := dget_ofO ro rb h
    rcases r with ⟨_, r⟩ | ⟨w, d', rfl, r, rw'⟩
    · rw [e] at r; cases r
    · rw [e] at r; cases r
      exact ix_dict hu value slice pins s σ H _ _ v u Q I rx ry ⟨a, w, rfl, g, q w rw'⟩ hs
section
variable {F : Nat → List D → Sto → Res (D × Bool)} {Γ : Nat → D}
theorem snd_ixr {i : Nat} {k : Ex} (Sk : Snd F Γ k) : Snd F Γ (.ixr i k) := by
  refine Snd.val nol (fun _ => rfl) (fun X c s G h => ?_)
  unfold chk at h
  split at h
  · simp only [Bool.and_eq_true] at h
    obtain ⟨⟨h1, h2⟩, h3⟩ := h
    refine ⟨(pe_ix (ix_atO (by have := G.un; omega)) (pe_name G h1) (Sk.b X c _ G h2) (plain_ix h3)).mono fun σ H Q ⟨tg, ρ, st, g, st', s, he, kk⟩ => ?_, fun _ => rfl⟩
    have he : (match get ρ i with
      | .v (.ref l) => (evE F Γ k ρ st).bind fun y st => (lift st[l]? st).bind fun o st => lift (atD o.toD y) st
      | _ => .bad) = .ok g st' := he
    have q := s.sl i
    cases hs : get ρ i with
    | un => rw [hs] at he; cases he
    | own o => rw [hs] at he; cases he
    | v d =>
      rw [hs] at he q
      cases d with
      | ref l =>
        obtain ⟨v, e1, r⟩ := q
        cases r with
        | ref t =>
          obtain ⟨y, st1, h4, h5⟩ := bind_ok (show ((evE F Γ k ρ st).bind fun y st => (lift st[l]? st).bind fun o st => lift (atD o.toD y) st) = .ok g st' from he)
          obtain ⟨o, st2, h6a, h7a⟩ := bind_ok h5
          obtain ⟨h6, rfl⟩ := lift_ok h6a
          obtain ⟨h7, rfl⟩ := lift_ok h7a
          refine ⟨_, e1, tg, ρ, st, y, _, s, h4, fun tg1 yv H1 x1 w1 r1 => ?_⟩
          obtain ⟨b, tb, ro⟩ := w1.sto l o h6
          have hb := w1.inj b _ l tb (x1.loc _ l t).1
          subst hb
          exact ⟨tg1, b, o, y, g, rfl, ro, r1.2, h7, fun v rv => kk tg1 v H1 x1 w1 ⟨r1.1, rv⟩⟩
      | _ => cases he
  · cases h
theorem inr_R {K : PySem.W.Frag} {n : Bool} {k : Ex} {i : Nat} {σ : L2.St} {H : Hp} {Q : VK} (h : tmE K (evE F Γ (.inr n k i)) σ H Q) :
    tOp (fun x y H Q => ∃ p o, y = .ref p ∧ DGet H p x o ∧ Q (.bl (if n then !o.isSome else o.isSome)) H) (tmB K (evE F Γ k)) (tVar i) σ H Q := by
  obtain ⟨tg, ρ, st, g, st', s, he, kk⟩ := h
  obtain ⟨y, st1, h4, h5⟩ := bind_ok (show ((evE F Γ k ρ st).bind fun y st => (match get ρ i with
    | .v (.ref l) => (lift st[l]? st).bind fun o st => lift ((inO o y).map fun b => .bl (n != b)) st
    | _ => .bad)) = .ok g st' from he)
  refine ⟨tg, ρ, st, y, st1, s, h4, fun tg1 yv H1 x1 w1 r1 => ?_⟩
  have s1 := s.next x1 w1 r1.1
  have q := s1.sl i
  cases hs : get ρ i with
  | un => rw [hs] at h5; cases h5
  | own o => rw [hs] at h5; cases h5
  | v d =>
    rw [hs] at h5 q
    cases d with
    | ref l =>
      obtain ⟨v, e1, r⟩ := q
      cases r with
      | ref t =>
        obtain ⟨o, st2, h6a, h7a⟩ := bind_ok (show ((lift st1[l]? st1).bind fun o st => lift ((inO o y).map fun b => .bl (n != b)) st) = .ok g st' from h5)
        obtain ⟨h6, rfl⟩ := lift_ok h6a
        obtain ⟨h7, rfl⟩ := lift_ok h7a
        obtain ⟨bb, h8, rfl⟩ := Option.map_eq_some_iff.mp h7
        obtain ⟨b, tb, ro⟩ := w1.sto l o h6
        have hb := w1.inj b _ l tb t
        subst hb
        cases o with
        | lst ds => cases h8
        | dct kd kvs =>
          obtain ⟨h9, h10⟩ := if_some (show (if keyD kd y = true then some (dlook y kvs).isSome else none) = some bb from h8)
          cases h10
          obtain ⟨o, g, r⟩ := dget_ofO ro r1.2 h9
          refine ⟨_, e1, b, o, rfl, g, ?_⟩
          have eo : o.isSome = (dlook y kvs).isSome := by
            rcases r with ⟨r1, r2⟩ | ⟨w, d', r1, r2, _⟩ <;> (rw [r1, r2]) <;> rfl
          rw [eo]
          have kk := kk tg1 _ H1 x1 w1 ⟨r1.1, .bl _⟩
          cases n <;> (revert kk; cases (dlook y kvs).isSome <;> exact id)
    | _ => cases h5
theorem op_inr {X : Cx} {n : Bool} (hu : X.A.units + 1 < cLine) : OpR X (compareOp (if n then .NotIn else .In)) (fun x y H Q => ∃ p o, y = .ref p ∧ DGet H p x o ∧ Q (.bl (if n then !o.isSome else o.isSome)) H) := by
  cases n with
  | false => exact op_dIn hu
  | true => exact op_dNotIn hu
theorem snd_inr {n : Bool} {k : Ex} {i : Nat} (Sk : Snd F Γ k) : Snd F Γ (.inr n k i) := by
  refine Snd.node nol (fun X c s G h => ?_) (fun X c s G h _ => ?_) no_o
  · unfold chk at h
    split at h
    · simp only [Bool.and_eq_true, decide_eq_true_eq] at h
      obtain ⟨⟨rfl, h2⟩, h3⟩ := h
      exact pe_of (fun _ _ z => nomatch z) (fun _ => rfl) ((pe_cmpR (op_inr (by have := G.un; omega)) (Sk.b X c _ G h2) (pe_name G h3) (no_mark rfl)).mono fun σ H Q w => inr_R w)
    · cases h
  · unfold chk at h
    split at h
    · simp only [Bool.and_eq_true, decide_eq_true_eq] at h
      obtain ⟨⟨rfl, h2⟩, h3⟩ := h
      exact (pt_cmpR (op_inr (by have := G.un; omega)) (Sk.b X c _ G h2) (pe_name G h3) (no_mark rfl)).mono fun σ H Q w => inr_R (tm_test w)
    · cases h
end
end Ev
set_option Elab.async false
set_option linter.all false
set_option maxRecDepth 100000
set_option maxHeartbeats 1000000
/-! enumerate(a tuple): the library's walk of enumerate(a list), turned to tuples. -/
namespace Ev
open PySem PySem.Spec PyProof.Rows L2
section
open Sem (wp)
open AutoSeq1 (wpAny_loadPart')
theorem meets_enumerate_newT (l : Addr) (items : Array Value) (n : Nat) (dct : Option Addr) (sl : Array (Option Value)) :
    Meets (Builtin.«enumerate.__new__» ⟨[.type "enumerate", .ref l], []⟩) (fun _ R s => s.heap.get? l = some { cls := .type "tuple", dict := dct, data := .seq items n, slots := sl } ∧
      R (.ok (.ret (.ref (s.heap.push { cls := .type "tuple_iterator", data := .fields #[.ref l, .int 0 0] }).objs.size)))
        { s with heap := (s.heap.push { cls := .type "tuple_iterator", data := .fields #[.ref l, .int 0 0] }).push { cls := .type "enumerate", data := .fields #[.none, .bool false, .ref s.heap.objs.size, rawInt 0, .none, .none] } }) :=
  .of_wp fun prog w A R s h => by
    obtain ⟨hp, g, d, tk, os⟩ := s; obtain ⟨hl, h⟩ := h
    have hsub := sub_enumerate
    have hL : Heap.IsTuple (Shared.heap ⟨hp, g, d, tk, os⟩) l items := ⟨_, hl, rfl, n, rfl⟩
    wp_walk using wpAny_loadPart' hl
    refine wpAny_stack_any fun st => wpAny_pure ?_
    split
    · rename_i c _ _ _ _ _
      cases (c == Value.type "enumerate")
      · wp_walk using wpAny_loadPart' hl, wpAny_pyIter_tuple hL
        exact ⟨_, rfl, h⟩
      · wp_walk using wpAny_loadPart' hl, wpAny_pyIter_tuple hL
        exact ⟨_, rfl, h⟩
    · wp_walk using wpAny_loadPart' hl, wpAny_pyIter_tuple hL
      exact ⟨_, rfl, h⟩
variable {prog : Program} {w : World} {A : Around} {E : Value → Shared → Prop} {s : Shared}
theorem call_enumerate_tup {l : Addr} {items : Array Value} {Q : Value → Shared → Prop} (hL : s.heap.IsTuple l items)
    (h : ∀ h', IsEnum h' (s.heap.objs.size + 1) s.heap.objs.size 0 .none → h'.IsTupleIter s.heap.objs.size l 0 → h'.objs.size = s.heap.objs.size + 2 →
      (∀ b o, s.heap.get? b = some o → h'.get? b = some o) → Q (.ref (s.heap.objs.size + 1)) { s with heap := h' }) :
    wpAny (model prog w) A (call (.type "enumerate") [.ref l]) Q E s := by
  obtain ⟨⟨c, dct, dt, sl⟩, hl, hc, n, hd⟩ := hL
  replace hc : c = .type "tuple" := hc
  replace hd : dt = .seq items n := hd
  subst hc hd
  refine callType_new F.called_enumerate (by decide) (F.typeCall_enumerate_1 _) (F.newCall_enumerate_1 _) (fun obj => F.args_object_init_2 obj _) F.entry_enumerate_new
    (meets_enumerate_newT l items n dct sl) ⟨hl, ?_⟩
  have hz : (s.heap.push { cls := .type "tuple_iterator", data := .fields #[.ref l, .int 0 0] }).objs.size = s.heap.objs.size + 1 := Heap.size_push ..
  show _ ∧ _
  rw [hz]
  have he : IsEnum ((s.heap.push { cls := .type "tuple_iterator", data := .fields #[.ref l, .int 0 0] }).push
      { cls := .type "enumerate", data := .fields #[.none, .bool false, .ref s.heap.objs.size, rawInt 0, .none, .none] }) (s.heap.objs.size + 1) s.heap.objs.size 0 .none := by
    have := Heap.get?_push_size (s.heap.push { cls := .type "tuple_iterator", data := .fields #[.ref l, .int 0 0] })
      (o := { cls := .type "enumerate", data := .fields #[.none, .bool false, .ref s.heap.objs.size, rawInt 0, .none, .none] }) rfl
    rw [hz] at this; exact this
  refine ⟨⟨_, he, rfl⟩, h _ he ⟨_, Heap.get?_push_of_some _ (Heap.get?_push_size _ rfl), rfl, rfl⟩ (by rw [Heap.size_push, hz]) fun b o x => Heap.get?_push_of_some _ (Heap.get?_push_of_some _ x)⟩
end
/-- the tuple at a, each item in a new pair -/
def IteT (K : PySem.W.Frag) (a : Addr) : It :=
  ⟨fun i H => ∃ (xs : List V) (x : V), SqT K H a xs ∧ xs[i]? = some x, fun i H v H' => ∃ T x, v = .ref T ∧ H T = none ∧ H' = upd H T (.tup [.int (i : Nat), x]) ∧ ∀ xs, SqT K H a xs → xs[i]? = some x, fun i H => ∃ xs : List V, SqT K H a xs ∧ xs.length = i⟩
theorem turn_enumT {P : Program} {w : World} {K : PySem.W.Frag} {elts : List Expr} {kk : Nat} {tpos : Pos} (a e it : Addr) :
    Turn P w K (.Tuple elts kk tpos) (IteT K a) [e, it] e (fun i h => (∃ old, IsEnum h e it ((i : Nat) : Int) old) ∧ h.IsTupleIter it a i ∧ e ≠ it ∧ a ≠ e ∧ a ≠ it) where
  mem := by simp
  obj := fun i h st b hb => by
    obtain ⟨⟨old, he⟩, ⟨o, ho, hc, hd⟩, _⟩ := st
    have e' : b = e ∨ b = it := by simpa using hb
    rcases e' with z | z
    · rw [z]; exact ⟨_, he, fun v q => nomatch q⟩
    · rw [z]; exact ⟨o, ho, fun v q => by rw [hd] at q; cases q⟩
  keep := fun i h h' st k => let ⟨⟨old, he⟩, hi, hne⟩ := st; ⟨⟨old, k e (by simp) _ he⟩, hi.at fun o q => k it (by simp) o q, hne⟩
  item := by
    intro X hP hw hK hc i pins s σ H E I hf st hg
    subst hP hw hK
    obtain ⟨⟨old, he⟩, hit, hne, hae, hai⟩ := st
    obtain ⟨xs, x, hq, hx⟩ := hg
    obtain ⟨its, rv, p, hz⟩ := I.tuple hq
    have hel : e < s.heap.objs.size := Heap.lt_size he
    have hil : it < s.heap.objs.size := by obtain ⟨_, q, _⟩ := hit; exact Heap.lt_size q
    have pt : s.heap.IsTuple a its.toArray := p
    obtain ⟨u0, hu0, ru0⟩ := rv.get hx
    have hlt : i < its.toArray.size := by
      have := (List.getElem?_eq_some_iff.mp hu0).1
      simpa using this
    have D := Draws.tuple (prog := X.prog) (w := X.w) (A := X.A.in1) (by show X.A.handled = none; exact I.ok.hd hc) it a hai its.toArray
    refine wpAny_pyNext_enum_itemD D he ⟨hit, pt⟩ hlt hne (by simp [hne, Ne.symm hae]) fun u h' tk hu ho hit' hT hsz hk => ?_
    have eu : u = u0 := by
      have h1 : its.toArray[i]? = some u := hu
      rw [List.getElem?_toArray, hu0] at h1
      exact (Option.some.inj h1).symm
    subst eu
    refine ⟨_, rfl, wpAny_letOwnedTupleGo_enum (s := { s with heap := h', toks := tk + 1 }) ho fun h'' he' sb => ?_⟩
    have hT2 : h''.get? s.heap.objs.size = some { cls := .type "tuple", data := .seq #[.int i tk, u] } := (sb.2 _ (Nat.ne_of_gt hel)).trans hT
    have new : ObjOk X.prog X.w (upd H s.heap.objs.size (.tup [.int (i : Nat), x])) h'' s.heap.objs.size (.tup [.int (i : Nat), x]) :=
      ⟨by show 2 ≤ sizeLine; decide, [.int i tk, u], .cons ⟨_, rfl⟩ (.cons ru0 .nil), ⟨_, hT2, rfl, _, rfl⟩⟩
    have I1 : Inv X pins σ (upd H s.heap.objs.size (.tup [.int (i : Nat), x])) { s with heap := h'', toks := tk + 1 } :=
      I.turnedNew (ch := [e, it]) (fun b ob hb q => (sb.2 b (fun z => hb (by simp [z]))).trans (hk b ob (fun z => hb (by simp [z])) (fun z => hb (by simp [z])) q)) hf (Nat.le_refl _) new
    refine ⟨.ref s.heap.objs.size, _, I1, rfl, ⟨_, x, rfl, I.hok.fresh (Nat.le_refl _), rfl, fun ys hy => by rw [I.tuple_inj hy hq]; exact hx⟩, ⟨⟨u, ?_⟩, hit'.1.at fun o q => (sb.2 it (Ne.symm hne)).trans q, hne, hae, hai⟩, fun b hb => ?_⟩
    · have e1 : ((i + 1 : Nat) : Int) = (i : Int) + 1 := by omega
      rw [e1]; exact he'
    · have hb' : b < s.heap.objs.size := by
        have e' : b = e ∨ b = it := by simpa using hb
        rcases e' with z | z
        · rw [z]; exact hel
        · rw [z]; exact hil
      rw [upd_ne (Nat.ne_of_lt hb')]
      exact (hf b hb).1
  done := by
    intro X hP hw hK hc i pins s σ H E I hf st hg
    subst hP hw hK
    obtain ⟨⟨old, he⟩, hit, hne, hae, hai⟩ := st
    obtain ⟨xs, hq, hx⟩ := hg
    obtain ⟨its, rv, p, hz⟩ := I.tuple hq
    have pt : s.heap.IsTuple a its.toArray := p
    obtain ⟨f0, f1, f2, f3, f4, f5⟩ := hf it (by simp)
    have hl := rv.length
    have hn : i = its.toArray.size := by rw [List.size_toArray, ← hl, hx]
    have D := Draws.tuple (prog := X.prog) (w := X.w) (A := X.A.in1) (by show X.A.handled = none; exact I.ok.hd hc) it a hai its.toArray
    refine wpAny_pyNext_enum_endD D he (by rw [← hn]; exact ⟨hit, pt⟩) fun h' eb => ⟨rfl, I.turned (t' := s.toks) (fun b o hb q => eb b o hb q) f0 f1 f3 f4 f5⟩
  self := fun A i s Q E st h => let ⟨⟨_, he⟩, _⟩ := st; wpAny_pyIter_enum he h
theorem boot_enumB : bootBuiltins "enumerate" = some (.type "enumerate") := by decide +kernel
def iEnumA (K : PySem.W.Frag) (ta : TA) : TI := fun σ H R => ta σ H fun vs H1 => ∃ a xs, vs = [.ref a] ∧ ((SqL K H1 a xs ∧ R (Ite K a) H1) ∨ (SqT K H1 a xs ∧ R (IteT K a) H1))
theorem pi_enumA {X : Cx} {e : Expr} {ta : TA} {p pos tpos : Pos} {elts : List Expr} {kk : Nat} (hg : Gl X "enumerate") (hm : X.mg "enumerate" = none) (ha : PA X [e] ta) (hs : starEach [e] X.env = [(false, eval e X.env)] := by rfl) :
    PI X (.Tuple elts kk tpos) (.Call (.Name "enumerate" p) [e] [] pos) (iEnumA X.K ta) := by
  refine ⟨fun pins s σ H R I h => ?_⟩
  refine Call_ (ld_blt I hg hm boot_enumB (PyProof.Rows.callWith_type1 (thn (ha.run pos pins s σ H _ I h) fun us s1 ⟨vs, H1, I1, r1, q1⟩ => ?_) hs rfl))
  obtain ⟨a, xs, ex, q1⟩ := q1
  subst ex
  cases r1 with
  | cons r rr =>
    cases rr
    cases r
    have fp2 : ∀ b, b ∈ [s1.heap.objs.size + 1, s1.heap.objs.size] → FpOk X pins H1 b := fun b hb => by
      have e' : b = s1.heap.objs.size + 1 ∨ b = s1.heap.objs.size := by simpa using hb
      have hle : s1.heap.objs.size ≤ b := by
        rcases e' with z | z
        · rw [z]; exact Nat.le_add_right _ _
        · rw [z]; exact Nat.le_refl _
      exact I1.fpOk hle (I1.hok.fresh hle)
    rcases q1 with ⟨hq, q⟩ | ⟨hq, q⟩
    · obtain ⟨its, rv, p', hz⟩ := I1.list hq
      refine call_enumerate_list p'.isList fun h' he hit hsz hk => wpAny_pyIter_enum he ?_
      have I2 : Inv X pins σ H1 { s1 with heap := h' } := I1.kept (t' := s1.toks) hk
      exact ⟨s1.heap.objs.size + 1, [s1.heap.objs.size + 1, s1.heap.objs.size], _, _, H1, rfl, I2, turn_enum a (s1.heap.objs.size + 1) s1.heap.objs.size, ⟨⟨.none, he⟩, hit, Nat.succ_ne_self _⟩, fp2, q⟩
    · obtain ⟨its, rv, p', hz⟩ := I1.tuple hq
      have pt : s1.heap.IsTuple a its.toArray := p'
      have hlt : a < s1.heap.objs.size := by obtain ⟨o, ho, _⟩ := pt; exact Heap.lt_size ho
      refine call_enumerate_tup pt fun h' he hit hsz hk => wpAny_pyIter_enum he ?_
      have I2 : Inv X pins σ H1 { s1 with heap := h' } := I1.kept (t' := s1.toks) hk
      exact ⟨s1.heap.objs.size + 1, [s1.heap.objs.size + 1, s1.heap.objs.size], _, _, H1, rfl, I2, turn_enumT a (s1.heap.objs.size + 1) s1.heap.objs.size, ⟨⟨.none, he⟩, hit, Nat.succ_ne_self _, Nat.ne_of_lt (Nat.lt_succ_of_lt hlt), Nat.ne_of_lt hlt⟩, fp2, q⟩
/-- over a list, a tuple -/
def iSeq (K : PySem.W.Frag) (tl : TE) : TI := fun σ H R => tl σ H fun x H1 => ∃ a xs, x = .ref a ∧ ((SqL K H1 a xs ∧ R (Itl K a) H1) ∨ (SqT K H1 a xs ∧ R (Itt K a) H1))
theorem pi_seq {X : Cx} {tg l : Expr} {tl : TE} (hl : PE X l tl) : PI X tg l (iSeq X.K tl) := by
  refine ⟨fun pins s σ H R I h => ?_⟩
  refine thn (hl.run pins s σ H _ I h) fun v s1 ⟨x, H1, I1, r1, q1⟩ => ?_
  obtain ⟨a, xs, e, q1⟩ := q1
  subst e
  cases r1
  have fp1 : ∀ b, b ∈ [s1.heap.objs.size] → FpOk X pins H1 b := fun b hb => by
    have e : b = s1.heap.objs.size := by simpa using hb
    subst e
    exact I1.fpOk (Nat.le_refl _) (I1.hok.fresh (Nat.le_refl _))
  rcases q1 with ⟨hq, q⟩ | ⟨hq, q⟩
  · obtain ⟨its, rv, p, hz⟩ := I1.list hq
    refine wpAny_pyIter_list p.isList ?_
    exact ⟨s1.heap.objs.size, [s1.heap.objs.size], _, _, H1, rfl, I1.kept (t' := s1.toks) fun b o e => Heap.get?_push_of_some _ e, turn_list a _, ⟨_, Heap.get?_push_size _ rfl, rfl, rfl⟩, fp1, q⟩
  · obtain ⟨its, rv, p, hz⟩ := I1.tuple hq
    refine wpAny_pyIter_tuple (show s1.heap.IsTuple a its.toArray from p) ?_
    exact ⟨s1.heap.objs.size, [s1.heap.objs.size], _, _, H1, rfl, I1.kept (t' := s1.toks) fun b o e => Heap.get?_push_of_some _ e, turn_tuple a _, ⟨_, Heap.get?_push_size _ rfl, rfl, rfl⟩, fp1, q⟩
end Ev
set_option Elab.async false
set_option linter.all false
set_option maxRecDepth 100000
set_option maxHeartbeats 1000000
namespace Ev
open PySem PySem.Spec PyProof PyProof.Rows L2
/-! ### a tuple and a list side by side -/
/-- a tuple's items with a list's, as both stand at each turn -/
def ItzM (K : PySem.W.Frag) (a b : Addr) : It where
  go i H := ∃ (xs ys : List V) (x y : V), SqT K H a xs ∧ SqL K H b ys ∧ xs[i]? = some x ∧ ys[i]? = some y
  yld i H v H' := ∃ T x y, v = .ref T ∧ H T = none ∧ H' = upd H T (.tup [x, y]) ∧ (∀ xs, SqT K H a xs → xs[i]? = some x) ∧ ∀ ys, SqL K H b ys → ys[i]? = some y
  stop i H := ∃ xs ys : List V, SqT K H a xs ∧ SqL K H b ys ∧ i ≤ xs.length ∧ i ≤ ys.length ∧ (i = xs.length ∨ i = ys.length)
theorem sep_of {z TI TO i1 i2 a b : Addr} (D : ZipApart z TI TO i1 i2 a b) : ZipSep2 z TI TO i1 i2 [i1, a] [i2, b] := by
  constructor <;> simp [D.TIz, D.TOz, D.TITO, D.TIi1, D.TIi2, D.TOi1, D.TOi2, D.i12, D.i1z.symm, D.i2z.symm, D.l1z.symm, D.l2z.symm, D.l1TO.symm, D.l2TO.symm, D.l2i1.symm, D.l1i2.symm, D.i12.symm]
/-- where a zip of a tuple and a list stands -/
def ZsM (z TI TO i1 i2 a b : Addr) (i : Nat) (h : Heap) : Prop := IsZip h z TI TO .none ∧ IsTupOf2 h TI (.ref i1) (.ref i2) ∧ (∃ x y, IsTupOf2 h TO x y) ∧ h.IsTupleIter i1 a i ∧ h.IsListIter i2 b i
theorem turn_M {P : Program} {w : World} {K : PySem.W.Frag} {elts : List Expr} {kk : Nat} {tpos : Pos} {a b z TI TO i1 i2 : Addr} (D : ZipApart z TI TO i1 i2 a b) :
    Turn P w K (.Tuple elts kk tpos) (ItzM K a b) [z, TI, TO, i1, i2] z (ZsM z TI TO i1 i2 a b) where
  mem := List.mem_cons_self ..
  obj i h st := by
    obtain ⟨q1, q2, ⟨_, _, q3⟩, ⟨_, e1, _, d1⟩, ⟨_, e2, _, d2⟩⟩ := st
    have no : ∀ {x : Obj} {vs : Array Value}, x.data = .fields vs → ∀ v, x.data ≠ .cell v := fun e v q => by rw [e] at q; cases q
    simp only [List.mem_cons, List.not_mem_nil, or_false, forall_eq_or_imp, forall_eq]
    exact ⟨⟨_, q1, no rfl⟩, ⟨_, q2, fun v q => nomatch q⟩, ⟨_, q3, fun v q => nomatch q⟩, ⟨_, e1, no d1⟩, ⟨_, e2, no d2⟩⟩
  keep i h h' st k := by
    obtain ⟨q1, q2, ⟨x, y, q3⟩, q4, q5⟩ := st
    simp only [List.mem_cons, List.not_mem_nil, or_false, forall_eq_or_imp, forall_eq] at k
    obtain ⟨k1, k2, k3, k4, k5⟩ := k
    exact ⟨k1 _ q1, k2 _ q2, ⟨x, y, k3 _ q3⟩, q4.at fun o => k4 o, q5.at fun o => k5 o⟩
  item X hP hw hK hc i pins s σ H E I hf st hg := by
    subst hP hw hK
    obtain ⟨q1, q2, ⟨x0, y0, q3⟩, q4, q5⟩ := st
    obtain ⟨xs, ys, x, y, sx, sy, hx, hy⟩ := hg
    obtain ⟨us, rv, p, _⟩ := I.tuple sx
    obtain ⟨us2, rv2, p2, _⟩ := I.list sy
    obtain ⟨⟨u, hu, ru⟩, u2, hu2, ru2⟩ := And.intro (rv.get hx) (rv2.get hy)
    have nh : X.A.in1.handled = none := I.ok.hd hc
    have l1 : i < us.toArray.size := by simpa using (List.getElem?_eq_some_iff.mp hu).1
    have l2 : i < us2.toArray.size := by simpa using (List.getElem?_eq_some_iff.mp hu2).1
    have hzl : z < s.heap.objs.size := Heap.lt_size q1
    refine wpAny_pyNext_zipD2_item (sep_of D) (Draws.tuple nh i1 a D.l1i1 us.toArray) (Draws.list nh i2 b D.l2i2 us2.toArray) q1 q2 q3 ⟨q4, p⟩ ⟨q5, p2.isList⟩ l1 l2 fun v1 v2 h' tk e1 e2 z1 o1 s1 s2 hT hsz hk => ?_
    have ev1 : v1 = u := by rw [List.getElem?_toArray, hu] at e1; exact (Option.some.inj e1).symm
    have ev2 : v2 = u2 := by rw [List.getElem?_toArray, hu2] at e2; exact (Option.some.inj e2).symm
    subst ev1 ev2
    refine ⟨_, rfl, wpAny_letOwnedTupleGo_zip (s := { s with heap := h', toks := tk }) z1 fun h2 z2 sb => ?_⟩
    have far : ∀ c o, c ∉ [z, TI, TO, i1, i2] → s.heap.get? c = some o → h2.get? c = some o := fun c o hb q => by
      simp only [List.mem_cons, List.not_mem_nil, or_false, not_or] at hb
      exact (sb.2 c hb.1).trans (hk c o hb.1 hb.2.2.1 hb.2.2.2.1 hb.2.2.2.2 q)
    have new : ObjOk X.prog X.w (upd H s.heap.objs.size (.tup [x, y])) h2 s.heap.objs.size (.tup [x, y]) :=
      ⟨by show 2 ≤ sizeLine; decide, [v1, v2], .cons ru (.cons ru2 .nil), ⟨_, (sb.2 _ (Nat.ne_of_gt hzl)).trans hT, rfl, _, rfl⟩⟩
    have I2 := I.turnedNew (t' := tk) (ch := [z, TI, TO, i1, i2]) far hf (Nat.le_refl _) new
    have lt : ∀ c, c ∈ [z, TI, TO, i1, i2] → c ≠ s.heap.objs.size := by
      simp only [List.mem_cons, List.not_mem_nil, or_false, forall_eq_or_imp, forall_eq]
      obtain ⟨_, g4, _⟩ := q4
      obtain ⟨_, g5, _⟩ := q5
      exact ⟨Nat.ne_of_lt hzl, Nat.ne_of_lt (Heap.lt_size q2), Nat.ne_of_lt (Heap.lt_size q3), Nat.ne_of_lt (Heap.lt_size g4), Nat.ne_of_lt (Heap.lt_size g5)⟩
    refine ⟨.ref s.heap.objs.size, _, I2, rfl, ⟨_, x, y, rfl, I.hok.fresh (Nat.le_refl _), rfl, fun l hl => by rw [I.tuple_inj hl sx]; exact hx, fun l hl => by rw [I.list_inj hl sy]; exact hy⟩, ⟨z2, ?_, ⟨v1, v2, (sb.2 _ D.TOz).trans o1⟩, s1.1.at fun o q => (sb.2 _ D.i1z).trans q, s2.1.at fun o q => (sb.2 _ D.i2z).trans q⟩, fun c hcm => ?_⟩
    · exact (sb.2 _ D.TIz).trans (hk _ _ D.TIz D.TITO D.TIi1 D.TIi2 q2)
    · rw [upd_ne (lt c hcm)]
      exact (hf c hcm).1
  done X hP hw hK hc i pins s σ H E I hf st hg := by
    subst hP hw hK
    obtain ⟨q1, q2, ⟨x0, y0, q3⟩, q4, q5⟩ := st
    obtain ⟨xs, ys, sx, sy, a1, a2, a3⟩ := hg
    obtain ⟨us, rv, p, _⟩ := I.tuple sx
    obtain ⟨us2, rv2, p2, _⟩ := I.list sy
    have l1 := rv.length
    have l2 := rv2.length
    have nh : X.A.in1.handled = none := I.ok.hd hc
    refine wpAny_pyNext_zipD2_end (sep_of D) (Draws.tuple nh i1 a D.l1i1 us.toArray) (Draws.list nh i2 b D.l2i2 us2.toArray) q1 q2 q3 ⟨q4, p⟩ ⟨q5, p2.isList⟩ (by simp; omega) (by simp; omega) (by simp; omega) fun h' tk hk => ⟨rfl, ?_⟩
    exact I.turnedL (t' := tk) (ch := [z, TI, TO, i1, i2]) (fun c o hb q => by
      simp only [List.mem_cons, List.not_mem_nil, or_false, not_or] at hb
      exact hk c o hb.1 hb.2.2.1 hb.2.2.2.1 hb.2.2.2.2 q) hf
  self A i s Q E st h := wpAny_pyIter_zip st.1 h
/-- the five objects that zip makes, one on the other -/
abbrev zm1 (a : Addr) (h : Heap) : Heap := h.push { cls := .type "tuple_iterator", data := .fields #[.ref a, .int 0 0] }
abbrev zm2 (a b : Addr) (h : Heap) : Heap := Heap.push (zm1 a h) { cls := .type "list_iterator", data := .fields #[.ref b, .int 0 0] }
abbrev zm3 (a b : Addr) (h : Heap) : Heap := Heap.push (zm2 a b h) { cls := .type "tuple", data := .seq #[.ref h.objs.size, .ref (zm1 a h).objs.size] }
abbrev zm4 (a b : Addr) (h : Heap) : Heap := Heap.push (zm3 a b h) { cls := .type "tuple", data := .seq #[.none, .none] }
abbrev zm5 (a b : Addr) (h : Heap) : Heap := Heap.push (zm4 a b h) { cls := .type "zip", data := .fields #[.none, .bool false, .bool false, .ref (zm2 a b h).objs.size, .ref (zm3 a b h).objs.size] }
theorem meets_zm (a b : Addr) (xs ys : Array Value) : Meets (Builtin.«zip.__new__» ⟨[.type "zip", .ref a, .ref b], []⟩) (fun _ R s => s.heap.IsTuple a xs ∧ s.heap.IsList b ys ∧ R (.ok (.ret (.ref (zm4 a b s.heap).objs.size))) { s with heap := zm5 a b s.heap }) :=
  .of_wp fun prog w A R s ⟨q1, q2, k⟩ => by
    cases s with
    | mk hp g d tk os =>
      have hsub := sub_zip
      have p1 : Heap.IsTuple (Shared.heap ⟨hp, g, d, tk, os⟩) a xs := q1
      have p2 : Heap.IsList (Shared.heap ⟨hp.push { cls := .type "tuple_iterator", data := .fields #[.ref a, .int 0 0] }, g, d, tk, os⟩) b ys := by
        obtain ⟨o, e, r⟩ := q2; exact ⟨o, Heap.get?_push_of_some _ e, r⟩
      wp_walk using wpAny_pyIter_tuple p1, wpAny_pyIter_list p2
      exact ⟨_, rfl, k⟩
theorem call_zm {prog : Program} {w : World} {A : Around} {E : Value → Shared → Prop} {s : Shared} {a b : Addr} {xs ys : Array Value} {Q : Value → Shared → Prop} (q1 : s.heap.IsTuple a xs) (q2 : s.heap.IsList b ys)
    (k : ∀ h, ZsM (s.heap.objs.size + 4) (s.heap.objs.size + 2) (s.heap.objs.size + 3) s.heap.objs.size (s.heap.objs.size + 1) a b 0 h → (∀ c o, s.heap.get? c = some o → h.get? c = some o) → Q (.ref (s.heap.objs.size + 4)) { s with heap := h }) :
    wpAny (model prog w) A (call (.type "zip") [.ref a, .ref b]) Q E s := by
  refine callType_new F.called_zip (by decide) (F.typeCall_zip_2 _ _) (F.newCall_zip_2 _ _) (fun obj => F.args_object_init_3 obj _ _) F.entry_zip_new (meets_zm a b xs ys) ⟨q1, q2, ?_⟩
  have n1 : (zm1 a s.heap).objs.size = s.heap.objs.size + 1 := Heap.size_push ..
  have n2 : (zm2 a b s.heap).objs.size = s.heap.objs.size + 2 := (Heap.size_push ..).trans (congrArg (· + 1) n1)
  have n3 : (zm3 a b s.heap).objs.size = s.heap.objs.size + 3 := (Heap.size_push ..).trans (congrArg (· + 1) n2)
  have n4 : (zm4 a b s.heap).objs.size = s.heap.objs.size + 4 := (Heap.size_push ..).trans (congrArg (· + 1) n3)
  have up : ∀ {h : Heap} {o : Obj} {c : Addr} {x : Obj}, h.get? c = some x → (h.push o).get? c = some x := fun e => Heap.get?_push_of_some _ e
  have g5 : (zm5 a b s.heap).get? (s.heap.objs.size + 4) = some _ := n4 ▸ Heap.get?_push_size _ rfl
  have g4 : (zm5 a b s.heap).get? (s.heap.objs.size + 3) = some _ := n3 ▸ up (Heap.get?_push_size _ rfl)
  have g3 : (zm5 a b s.heap).get? (s.heap.objs.size + 2) = some _ := n2 ▸ up (up (Heap.get?_push_size _ rfl))
  have g2 : (zm5 a b s.heap).get? (s.heap.objs.size + 1) = some _ := n1 ▸ up (up (up (Heap.get?_push_size _ rfl)))
  have g1 : (zm5 a b s.heap).get? s.heap.objs.size = some _ := up (up (up (up (Heap.get?_push_size _ rfl))))
  rw [n2, n3] at g5
  rw [n1] at g3
  rw [n4]
  exact ⟨⟨_, g5, rfl⟩, k _ ⟨g5, g3, ⟨_, _, g4⟩, ⟨_, g1, rfl, rfl⟩, ⟨_, g2, rfl, rfl⟩⟩ fun c o e => up (up (up (up (up e))))⟩
def iZipM (K : PySem.W.Frag) (ta : TA) : TI := fun σ H R => ta σ H fun vs H1 => ∃ a b xs ys, vs = [.ref a, .ref b] ∧ SqT K H1 a xs ∧ SqL K H1 b ys ∧ R (ItzM K a b) H1
theorem pi_zipM {X : Cx} {e e2 : Expr} {ta : TA} {p pos tpos : Pos} {elts : List Expr} {kk : Nat} (hg : Gl X "zip") (hm : X.mg "zip" = none) (ha : PA X [e, e2] ta)
    (hs : starEach [e, e2] X.env = (false, eval e X.env) :: starEach [e2] X.env) (hpl : (backTo pos (starEach [e2] X.env)).any (·.1) = false) :
    PI X (.Tuple elts kk tpos) (.Call (.Name "zip" p) [e, e2] [] pos) (iZipM X.K ta) where
  run pins s σ H R I h := by
    refine Call_ (ld_blt I hg hm PyProof.Rows.boot_zip (PyProof.Rows.callWith_type1 (thn (ha.run pos pins s σ H _ I h) fun us s1 ⟨vs, H1, I1, r1, a, b, xs, ys, ev, qx, qy, q⟩ => ?_) hs hpl))
    subst ev
    obtain ⟨its, rv, p1, _⟩ := I1.tuple qx
    obtain ⟨its2, rv2, p2, _⟩ := I1.list qy
    cases r1 with | cons r rr => cases rr with | cons r' rr =>
    cases rr; cases r; cases r'
    have la : a < s1.heap.objs.size := by obtain ⟨_, g, _⟩ := id p1; exact Heap.lt_size g
    refine call_zm p1 p2.isList fun h' st hk => wpAny_pyIter_zip st.1 ?_
    refine ⟨_, [s1.heap.objs.size + 4, s1.heap.objs.size + 2, s1.heap.objs.size + 3, s1.heap.objs.size, s1.heap.objs.size + 1], _, _, H1, rfl, I1.kept (t' := s1.toks) hk, turn_M (PySem.W.ktu_apart s1.heap.objs.size a b la p2.lt), st, fun c hcm => ?_, q⟩
    have above : s1.heap.objs.size ≤ c := by
      simp only [List.mem_cons, List.not_mem_nil, or_false] at hcm
      rcases hcm with rfl | rfl | rfl | rfl | rfl <;> omega
    exact I1.fpOk above (I1.hok.fresh above)
end Ev
set_option Elab.async false
set_option linter.all false
set_option maxRecDepth 100000
set_option maxHeartbeats 1000000
/-! What loops walk; targets; list comprehensions. -/
namespace Ev
open PySem PySem.Spec PyProof.Rows L2
section
variable {F : Nat → List D → Sto → Res (D × Bool)} {Γ : Nat → D}
/-! ### walks -/
/-- a list or a tuple that stays while a loop walks it -/
def Stays (K : PySem.W.Frag) (bw : Bool) (H : Hp) (tg : TF) (a : Addr) (xs : List V) (ls : Bool) : Prop :=
  ∀ H1 tg1, (if bw then Kp H tg H1 tg1 else Le H tg H1 tg1) → (if ls then SqL K H1 a xs else SqT K H1 a xs)
def isL : D → Bool
  | .lst _ => true
  | _ => false
theorem le_of {bw : Bool} {H H1 : Hp} {tg tg1 : TF} (h : if bw then Kp H tg H1 tg1 else Le H tg H1 tg1) : Le H tg H1 tg1 := by
  cases bw with
  | false => exact h
  | true => exact Kp.le h
theorem stays_v {K : PySem.W.Frag} {H : Hp} {tg : TF} {v : V} {d : D} {ds : List D} {bw : Bool} (r : RV K H tg v d) (e : elemsK d = some ds) : ∃ a xs, v = .ref a ∧ RVs K H tg xs ds ∧ Stays K bw H tg a xs (isL d) := by
  cases r with
  | lst h t r =>
    cases e
    exact ⟨_, _, rfl, r, fun H1 tg1 q => SqL.of ((le_of q).fz _ _ h t).1⟩
  | tup h t r =>
    cases e
    exact ⟨_, _, rfl, r, fun H1 tg1 q => SqT.of ((le_of q).fz _ _ h t).1⟩
  | kt h r =>
    cases e
    exact ⟨_, _, rfl, r, fun H1 tg1 q => h H1⟩
  | _ => cases e
theorem stays_b {K : PySem.W.Frag} {H : Hp} {tg : TF} {v : V} {d : D} {ds : List D} (r : RB K H tg v d) (e : elemsK d = some ds) : ∃ a xs, v = .ref a ∧ RVs K H tg xs ds ∧ Stays K true H tg a xs (isL d) := by
  rcases r with r | ⟨a, i, o, rfl, t, ro, rfl⟩
  · exact stays_v r e
  · cases o with
    | lst ds' =>
      cases e
      obtain ⟨xs, h, r⟩ := ro
      exact ⟨a, xs, rfl, r, fun H1 tg1 (q : Kp H tg H1 tg1) => SqL.of (q.keep a _ h (by rw [t]; exact fun _ z => nomatch z)).1⟩
    | dct k kvs => cases e
theorem Stays.now {K : PySem.W.Frag} {bw : Bool} {H : Hp} {tg : TF} {a : Addr} {xs : List V} {ls : Bool} (s : Stays K bw H tg a xs ls) (w : ∀ a, H a = none → tg a = none) : if ls then SqL K H a xs else SqT K H a xs := by
  refine s H tg ?_
  cases bw with
  | false => exact Le.refl
  | true => exact (Ext.refl w).kp
theorem walk_seq {K : PySem.W.Frag} {bw : Bool} {H : Hp} {tg : TF} {a : Addr} {xs : List V} {ls : Bool} {ds : List D} (s : Stays K bw H tg a xs ls) (r : RVs K H tg xs ds) : WalkD K bw (if ls then Itl K a else Itt K a) ds H tg := by
  intro H1 tg1 q hd
  have q1 := s H1 tg1 q
  have hl := r.length
  cases ls with
  | true =>
    have q1 : SqL K H1 a xs := q1
    refine ⟨fun i hi => ⟨xs, xs[i], q1, by simp [hl, hi]⟩, ⟨xs, q1, by omega⟩, fun i x H2 hi y => ?_⟩
    obtain ⟨e, y⟩ := y
    subst e
    obtain ⟨d, h1, h2⟩ := r.get' (y xs q1)
    exact ⟨d, h1, .inl rfl, h2.mono (le_of q)⟩
  | false =>
    have q1 : SqT K H1 a xs := q1
    refine ⟨fun i hi => ⟨xs, xs[i], q1, by simp [hl, hi]⟩, ⟨xs, q1, by omega⟩, fun i x H2 hi y => ?_⟩
    obtain ⟨e, y⟩ := y
    subst e
    obtain ⟨d, h1, h2⟩ := r.get' (y xs q1)
    exact ⟨d, h1, .inl rfl, h2.mono (le_of q)⟩
theorem enuL_get : ∀ {ds : List D} {n i : Nat} {d : D}, ds[i]? = some d → (enuL n ds)[i]? = some (.tup [.int ((n + i : Nat) : Int), d])
  | d0 :: ds, n, 0, d, h => by
    cases h
    rfl
  | d0 :: ds, n, i + 1, d, h => by
    have := enuL_get (ds := ds) (n := n + 1) (i := i) (d := d) (by simpa using h)
    show (enuL (n + 1) ds)[i]? = _
    rw [this]
    have e : n + 1 + i = n + (i + 1) := by omega
    rw [e]
theorem enuL_length : ∀ (ds : List D) (n : Nat), (enuL n ds).length = ds.length
  | [], _ => rfl
  | d :: ds, n => by
    show (enuL (n + 1) ds).length + 1 = _
    rw [enuL_length ds (n + 1)] <;> rfl
theorem walk_enu {K : PySem.W.Frag} {bw : Bool} {H : Hp} {tg : TF} {a : Addr} {xs : List V} {ls : Bool} {ds : List D} (s : Stays K bw H tg a xs ls) (r : RVs K H tg xs ds) : WalkD K bw (if ls then Ite K a else IteT K a) (enuL 0 ds) H tg := by
  intro H1 tg1 q hd
  have q1 := s H1 tg1 q
  have hl := r.length
  have pair : ∀ (i : Nat) (x : V) (T : Addr) (d : D), H1 T = none → ds[i]? = some d → RV K H tg x d → (enuL 0 ds)[i]? = some (.tup [.int ((0 + i : Nat) : Int), d]) ∧ RV K (upd H1 T (.tup [.int (i : Nat), x])) tg1 (.ref T) (.tup [.int ((0 + i : Nat) : Int), d]) := fun i x T d hT h1 h2 =>
    ⟨enuL_get h1, .tup upd_same (hd T hT) (.cons (by rw [Nat.zero_add]; exact .int _) (.cons (h2.mono ((le_of q).trans ⟨fun b o hb t => ⟨by rw [upd_ne (ne_of_none hb hT)]; exact hb, t⟩, fun b l h => h⟩)) .nil))⟩
  cases ls with
  | true =>
    have q1 : SqL K H1 a xs := q1
    refine ⟨fun i hi => ?_, ⟨xs, q1, by rw [enuL_length]; omega⟩, fun i x H2 hi y => ?_⟩
    · rw [enuL_length] at hi
      exact ⟨xs, xs[i], q1, by simp [hl, hi]⟩
    obtain ⟨T, x, e, hT, eH, y⟩ := y
    subst e eH
    obtain ⟨d, h1, h2⟩ := r.get' (y xs q1)
    obtain ⟨h3, h4⟩ := pair i x T d hT h1 h2
    exact ⟨_, h3, .inr ⟨T, _, hT, rfl⟩, h4⟩
  | false =>
    have q1 : SqT K H1 a xs := q1
    refine ⟨fun i hi => ?_, ⟨xs, q1, by rw [enuL_length]; omega⟩, fun i x H2 hi y => ?_⟩
    · rw [enuL_length] at hi
      exact ⟨xs, xs[i], q1, by simp [hl, hi]⟩
    obtain ⟨T, x, e, hT, eH, y⟩ := y
    subst e eH
    obtain ⟨d, h1, h2⟩ := r.get' (y xs q1)
    obtain ⟨h3, h4⟩ := pair i x T d hT h1 h2
    exact ⟨_, h3, .inr ⟨T, _, hT, rfl⟩, h4⟩
theorem zipL_get : ∀ {ds es : List D} {i : Nat} {d e : D}, ds[i]? = some d → es[i]? = some e → (zipL ds es)[i]? = some (.tup [d, e])
  | d0 :: ds, e0 :: es, 0, d, e, h, h' => by
    cases h
    cases h'
    rfl
  | d0 :: ds, e0 :: es, i + 1, d, e, h, h' => by
    have := zipL_get (ds := ds) (es := es) (i := i) (d := d) (e := e) (by simpa using h) (by simpa using h')
    show (zipL ds es)[i]? = _
    rw [this]
theorem zipL_length : ∀ (ds es : List D), (zipL ds es).length = min ds.length es.length
  | [], _ => by simp [zipL]
  | d :: ds, [] => by simp [zipL]
  | d :: ds, e :: es => by
    show (zipL ds es).length + 1 = _
    rw [zipL_length ds es]
    simp only [List.length_cons]
    omega
theorem walk_zip {K : PySem.W.Frag} {bw : Bool} {H : Hp} {tg : TF} {a b : Addr} {xs ys : List V} {ls : Bool} {ds es : List D} (s : Stays K bw H tg a xs ls) (s2 : Stays K bw H tg b ys ls) (r : RVs K H tg xs ds) (r2 : RVs K H tg ys es) :
    WalkD K bw (if ls then Itz K a b else RZ.ItzT K a b) (zipL ds es) H tg := by
  intro H1 tg1 q hd
  have q1 := s H1 tg1 q
  have q2 := s2 H1 tg1 q
  have hl := r.length
  have hl2 := r2.length
  have pair : ∀ (i : Nat) (x y : V) (T : Addr), H1 T = none → xs[i]? = some x → ys[i]? = some y → ∃ d, (zipL ds es)[i]? = some d ∧ RV K (upd H1 T (.tup [x, y])) tg1 (.ref T) d := fun i x y T hT hx hy => by
    obtain ⟨d, h1, h2⟩ := r.get' hx
    obtain ⟨e, h3, h4⟩ := r2.get' hy
    have le : Le H tg (upd H1 T (.tup [x, y])) tg1 := (le_of q).trans ⟨fun b o hb t => ⟨by rw [upd_ne (ne_of_none hb hT)]; exact hb, t⟩, fun b l h => h⟩
    exact ⟨_, zipL_get h1 h3, .tup upd_same (hd T hT) (.cons (h2.mono le) (.cons (h4.mono le) .nil))⟩
  cases ls with
  | true =>
    have q1 : SqL K H1 a xs := q1
    have q2 : SqL K H1 b ys := q2
    refine ⟨fun i hi => ?_, ⟨xs, ys, q1, q2, by rw [zipL_length]; omega⟩, fun i x H2 hi y => ?_⟩
    · rw [zipL_length] at hi
      exact ⟨xs, ys, xs[i]'(by omega), ys[i]'(by omega), q1, q2, by simp, by simp⟩
    obtain ⟨T, x, y', e, hT, eH, y1, y2⟩ := y
    subst e eH
    obtain ⟨d, h3, h4⟩ := pair i x y' T hT (y1 xs q1) (y2 ys q2)
    exact ⟨_, h3, .inr ⟨T, _, hT, rfl⟩, h4⟩
  | false =>
    have q1 : SqT K H1 a xs := q1
    have q2 : SqT K H1 b ys := q2
    refine ⟨fun i hi => ?_, ⟨xs, ys, q1, q2, by rw [zipL_length]; omega⟩, fun i x H2 hi y => ?_⟩
    · rw [zipL_length] at hi
      exact ⟨xs, ys, xs[i]'(by omega), ys[i]'(by omega), q1, q2, by simp, by simp⟩
    obtain ⟨T, x, y', e, hT, eH, y1, y2⟩ := y
    subst e eH
    obtain ⟨d, h3, h4⟩ := pair i x y' T hT (y1 xs q1) (y2 ys q2)
    exact ⟨_, h3, .inr ⟨T, _, hT, rfl⟩, h4⟩
theorem walk_zipM {K : PySem.W.Frag} {bw : Bool} {H : Hp} {tg : TF} {a b : Addr} {xs ys : List V} {ds es : List D} (s : Stays K bw H tg a xs false) (s2 : Stays K bw H tg b ys true) (r : RVs K H tg xs ds) (r2 : RVs K H tg ys es) :
    WalkD K bw (ItzM K a b) (zipL ds es) H tg := by
  intro H1 tg1 q hd
  have q1 : SqT K H1 a xs := s H1 tg1 q
  have q2 : SqL K H1 b ys := s2 H1 tg1 q
  have hl := r.length
  have hl2 := r2.length
  refine ⟨fun i hi => ?_, ⟨xs, ys, q1, q2, by rw [zipL_length]; omega, by rw [zipL_length]; omega, by rw [zipL_length]; omega⟩, fun i x H2 hi y => ?_⟩
  · rw [zipL_length] at hi
    exact ⟨xs, ys, xs[i]'(by omega), ys[i]'(by omega), q1, q2, by simp, by simp⟩
  obtain ⟨T, x, y', e, hT, eH, y1, y2⟩ := y
  subst e eH
  obtain ⟨d, h1, h2⟩ := r.get' (y1 xs q1)
  obtain ⟨e, h3, h4⟩ := r2.get' (y2 ys q2)
  have le : Le H tg (upd H1 T (.tup [x, y'])) tg1 := (le_of q).trans ⟨fun b o hb t => ⟨by rw [upd_ne (ne_of_none hb hT)]; exact hb, t⟩, fun b l h => h⟩
  exact ⟨_, zipL_get h1 h3, .inr ⟨T, _, hT, rfl⟩, .tup upd_same (hd T hT) (.cons (h2.mono le) (.cons (h4.mono le) .nil))⟩
theorem rngL_get {lo c : Int} {n i : Nat} (h : i < n) : (rngL lo c n)[i]? = some (.int (lo + (i : Int) * c)) := by
  unfold rngL
  rw [List.getElem?_map, List.getElem?_range h]
  rfl
theorem walk_rng {K : PySem.W.Frag} {bw : Bool} {H : Hp} {tg : TF} (lo : Int) (n : Nat) : WalkD K bw (Itr lo n) (rngL lo 1 n) H tg := by
  intro H1 tg1 q hd
  refine ⟨fun i hi => by rw [rngL_length] at hi; exact hi, by rw [rngL_length]; exact Nat.le_refl _, fun i x H2 hi y => ?_⟩
  rw [rngL_length] at hi
  obtain ⟨e, rfl⟩ := y
  subst e
  exact ⟨_, rngL_get hi, .inl rfl, by rw [Int.mul_one]; exact .int _⟩
theorem walk_rngC {K : PySem.W.Frag} {bw : Bool} {H : Hp} {tg : TF} (lo c : Int) (n : Nat) : WalkD K bw (Itc lo c n) (rngL lo c n) H tg := by
  intro H1 tg1 q hd
  refine ⟨fun i hi => by rw [rngL_length] at hi; exact hi, by rw [rngL_length]; exact Nat.le_refl _, fun i x H2 hi y => ?_⟩
  rw [rngL_length] at hi
  obtain ⟨e, rfl⟩ := y
  subst e
  exact ⟨_, rngL_get hi, .inl rfl, .int _⟩
/-! ### the iterators as nodes -/
theorem Snd.iter {e : Ex} (hc : ∀ c bw s, chk e c bw s = false) (n : e ≠ .nil) (n2 : ∀ a b, e ≠ .cons a b) (o : ∀ c s, chko e c s = false)
    (i : ∀ X c bw s t, Good X c F Γ → chki e c bw s t = true → PI X t s (tmI X.K bw (evI F Γ e))) : Snd F Γ e where
  x := fun X c s G h => by rw [hc] at h; cases h
  b := fun X c s G h => by rw [hc] at h; cases h
  t := fun X c s G h => by rw [hc] at h; cases h
  a := fun X c s G h => by rw [chks_no e n n2] at h; cases h
  ab := fun X c s G h => by rw [chks_no e n n2] at h; cases h
  and := fun X c s p G h => by rw [chkb_no e n2] at h; cases h
  or := fun X c s p G h => by rw [chkb_no e n2] at h; cases h
  ts := fun X c s G h => by rw [chkt_no e n n2] at h; cases h
  o := fun X c s G h => by rw [o] at h; cases h
  i := i
  pk := fun X c ks vs G h => by rw [chkpk_no e n n2] at h; cases h
  pv := fun X c ks vs G h => by rw [chkpv_no e n2] at h; cases h
/-- a walked value: read or borrowed -/
theorem Snd.bw {e : Ex} (S : Snd F Γ e) {X : Cx} {c : Cc} {s : Expr} {bw : Bool} (G : Good X c F Γ) (h : chk e c bw s = true) : PE X s (tm X.K (fun H tg v d => NoTmp tg ∧ (RV X.K H tg v d ∨ (bw = true ∧ RB X.K H tg v d))) (evE F Γ e)) := by
  cases bw with
  | true => exact (S.b X c s G h).mono fun σ H Q w => w.weak fun H tg v d q => ⟨q.1, .inr ⟨rfl, q.2⟩⟩
  | false => exact (S.e G h).mono fun σ H Q w => w.weak fun H tg v d q => ⟨q.1, .inl q.2⟩
theorem stays_w {K : PySem.W.Frag} {H : Hp} {tg : TF} {v : V} {d : D} {ds : List D} {bw : Bool} (r : RV K H tg v d ∨ (bw = true ∧ RB K H tg v d)) (e : elemsK d = some ds) : ∃ a xs, v = .ref a ∧ RVs K H tg xs ds ∧ Stays K bw H tg a xs (isL d) := by
  rcases r with r | ⟨rfl, r⟩
  · exact stays_v r e
  · exact stays_b r e
theorem elemsK_of {d : D} {ds : List D} (h : Ev.elems d = some ds) : elemsK d = some ds := by
  cases d <;> first | exact h | cases h
theorem snd_seq {a : Ex} (Sa : Snd F Γ a) : Snd F Γ (.seq a) := by
  refine Snd.iter (by intro _ _ _; unfold chk; rfl) (fun z => nomatch z) (fun _ _ z => nomatch z) (by intro _ _; unfold chko; rfl) fun X c bw s t G h => ?_
  unfold chki at h
  rw [Bool.and_eq_true] at h
  refine (pi_seq (Sa.bw G h.1)).mono fun σ H R ⟨tg, ρ, st, ds, st', s, he, k⟩ => ?_
  obtain ⟨d, st1, h1, h2⟩ := bind_ok (show ((evE F Γ a ρ st).bind fun x st => lift (elemsK x) st) = .ok ds st' from he)
  obtain ⟨h3, rfl⟩ := lift_ok h2
  refine ⟨tg, ρ, st, d, _, s, h1, fun tg1 v H1 e1 w1 r1 => ?_⟩
  obtain ⟨p, xs, rfl, rs, sy⟩ := stays_w r1.2 h3
  have kk := k tg1 _ H1 e1 w1 r1.1 (walk_seq sy rs)
  have nw := sy.now w1.dom
  revert kk nw
  cases isL d with
  | true => exact fun kk nw => ⟨p, xs, rfl, .inl ⟨nw, kk⟩⟩
  | false => exact fun kk nw => ⟨p, xs, rfl, .inr ⟨nw, kk⟩⟩
theorem snd_enu {a : Ex} (Sa : Snd F Γ a) : Snd F Γ (.enu a) := by
  refine Snd.iter (by intro _ _ _; unfold chk; rfl) (fun z => nomatch z) (fun _ _ z => nomatch z) (by intro _ _; unfold chko; rfl) fun X c bw s t G h => ?_
  unfold chki at h
  split at h
  · simp only [Bool.and_eq_true] at h
    obtain ⟨⟨⟨h1, h2⟩, h3⟩, h4⟩ := h
    obtain ⟨rfl, g1⟩ := chkBt_of h1
    cases t with
    | Tuple elts kk tpos =>
      refine (pi_enumA (G.glo _ g1) (G.bl _ (by decide +kernel)) (pa_cons (Sa.bw G h2) pa_nil (star_cons h3)) (star_cons h3)).mono fun σ H R ⟨tg, ρ, st, ds, st', s, he, k⟩ => ?_
      obtain ⟨d, st1, h5, h6⟩ := bind_ok (show ((evE F Γ a ρ st).bind fun x st => lift ((Ev.elems x).map (enuL 0)) st) = .ok ds st' from he)
      obtain ⟨h7, rfl⟩ := lift_ok h6
      obtain ⟨es, h8, rfl⟩ := Option.map_eq_some_iff.mp h7
      refine ⟨tg, ρ, st, d, _, s, h5, fun tg1 v H1 e1 w1 r1 => ?_⟩
      obtain ⟨p, xs, rfl, rs, sy⟩ := stays_w r1.2 (elemsK_of h8)
      have kk := k tg1 _ H1 e1 w1 r1.1 (walk_enu sy rs)
      have nw := sy.now w1.dom
      revert kk nw
      cases isL d with
      | true => exact fun kk nw => ⟨p, xs, rfl, .inl ⟨nw, kk⟩⟩
      | false => exact fun kk nw => ⟨p, xs, rfl, .inr ⟨nw, kk⟩⟩
    | _ => cases h4
  · cases h
theorem Stays.ext {K : PySem.W.Frag} {bw : Bool} {H H1 : Hp} {tg tg1 : TF} {a : Addr} {xs : List V} {ls : Bool} (s : Stays K bw H tg a xs ls) (e : Ext H tg H1 tg1) : Stays K bw H1 tg1 a xs ls := fun H2 tg2 q => s H2 tg2 (by
  cases bw with
  | false => exact e.le.trans q
  | true => exact e.kp.trans q)
theorem snd_zip {a b : Ex} (Sa : Snd F Γ a) (Sb : Snd F Γ b) : Snd F Γ (.zip a b) := by
  refine Snd.iter (by intro _ _ _; unfold chk; rfl) (fun z => nomatch z) (fun _ _ z => nomatch z) (by intro _ _; unfold chko; rfl) fun X c bw s t G h => ?_
  unfold chki at h
  split at h
  · simp only [Bool.and_eq_true] at h
    obtain ⟨⟨⟨⟨⟨h1, h2⟩, h3⟩, h4⟩, h5⟩, h6⟩ := h
    obtain ⟨rfl, g1⟩ := chkBt_of h1
    cases t with
    | Tuple elts kk tpos =>
      have PA := pa_cons (Sa.bw G h2) (pa_cons (Sb.bw G h3) pa_nil (star_cons h5)) (star_cons h4)
      have P1 := fun pos p tp => RZ.pi_zipA (p := p) (pos := pos) (tpos := tp) (elts := elts) (kk := kk) (G.glo _ g1) (G.bl _ (by decide +kernel)) PA (star_cons h4) (by rw [star_cons h5]; rfl)
      have P2 := fun pos p tp => pi_zipM (p := p) (pos := pos) (tpos := tp) (elts := elts) (kk := kk) (G.glo _ g1) (G.bl _ (by decide +kernel)) PA (star_cons h4) (by rw [star_cons h5]; rfl)
      refine ⟨fun pins sh σ H R I wt => ?_⟩
      obtain ⟨tg, ρ, st, ds, st', s, he, k⟩ := wt
      obtain ⟨d, st1, h7, he⟩ := bind_ok (show ((evE F Γ a ρ st).bind fun x st => (evE F Γ b ρ st).bind fun y st => lift (zipD x y) st) = .ok ds st' from he)
      obtain ⟨d2, st2, h8, he⟩ := bind_ok he
      obtain ⟨h9, rfl⟩ := lift_ok he
      have key : ∃ xs ys, elemsK d = some xs ∧ elemsK d2 = some ys ∧ ds = zipL xs ys ∧ (isL d2 = isL d ∨ (isL d = false ∧ isL d2 = true)) := by
        cases d <;> cases d2 <;> cases h9 <;> first | exact ⟨_, _, rfl, rfl, rfl, .inl rfl⟩ | exact ⟨_, _, rfl, rfl, rfl, .inr ⟨rfl, rfl⟩⟩
      obtain ⟨xs, ys, h10, h11, rfl, hk⟩ := key
      rcases hk with hk | ⟨k1, k2⟩
      · refine (P1 _ _ _).run pins sh σ H R I ?_
        refine ⟨tg, ρ, st, d, _, s, h7, fun tg1 v H1 e1 w1 r1 => ?_⟩
        refine ⟨tg1, ρ, _, d2, _, s.next e1 w1 r1.1, h8, fun tg2 v2 H2 e2 w2 r2 => ?_⟩
        obtain ⟨p, us, rfl, rs, sy⟩ := stays_w r1.2 h10
        obtain ⟨p2, us2, rfl, rs2, sy2⟩ := stays_w r2.2 h11
        have sy := sy.ext e2
        have rs := rs.mono e2.le
        rw [hk] at sy2
        have nw := sy.now w2.dom
        have nw2 := sy2.now w2.dom
        have kk := k tg2 _ H2 (e1.trans e2) w2 r2.1 (walk_zip sy sy2 rs rs2)
        revert kk nw nw2
        cases isL d with
        | true => exact fun nw nw2 kk => ⟨p, p2, us, us2, rfl, .inl ⟨nw, nw2, kk⟩⟩
        | false => exact fun nw nw2 kk => ⟨p, p2, us, us2, rfl, .inr ⟨nw, nw2, kk⟩⟩
      · refine (P2 _ _ _).run pins sh σ H R I ?_
        refine ⟨tg, ρ, st, d, _, s, h7, fun tg1 v H1 e1 w1 r1 => ?_⟩
        refine ⟨tg1, ρ, _, d2, _, s.next e1 w1 r1.1, h8, fun tg2 v2 H2 e2 w2 r2 => ?_⟩
        obtain ⟨p, us, rfl, rs, sy⟩ := stays_w r1.2 h10
        obtain ⟨p2, us2, rfl, rs2, sy2⟩ := stays_w r2.2 h11
        have sy := sy.ext e2
        have rs := rs.mono e2.le
        rw [k1] at sy
        rw [k2] at sy2
        exact ⟨p, p2, us, us2, rfl, sy.now w2.dom, sy2.now w2.dom, k tg2 _ H2 (e1.trans e2) w2 r2.1 (walk_zipM sy sy2 rs rs2)⟩
    | _ => cases h6
  · cases h
theorem snd_rng {es : Ex} (Ss : Snd F Γ es) : Snd F Γ (.rng es) := by
  refine Snd.iter (by intro _ _ _; unfold chk; rfl) (fun z => nomatch z) (fun _ _ z => nomatch z) (by intro _ _; unfold chko; rfl) fun X c bw s t G h => ?_
  unfold chki at h
  split at h
  · simp only [Bool.and_eq_true, decide_eq_true_eq] at h
    obtain ⟨⟨⟨h1, h2⟩, h3⟩, h4⟩ := h
    obtain ⟨rfl, g1⟩ := chkBt_of h1
    obtain ⟨pa, hn⟩ := Ss.ab X c _ G h2
    rename_i args pos
    have gR := G.glo _ g1
    have mR := G.bl "range" (by decide +kernel)
    have ev : ∀ (ρ : Rho) (st st' : Sto) (ds : List D), evI F Γ (.rng es) ρ st = .ok ds st' → ∃ as, evA F Γ es ρ st = .ok as st' ∧ rngD as = some ds ∧ as.length = args.length := fun ρ st st' ds he => by
      obtain ⟨as, st1, h5, h6⟩ := bind_ok (show ((evA F Γ es ρ st).bind fun ds st => lift (rngD ds) st) = .ok ds st' from he)
      obtain ⟨h7, rfl⟩ := lift_ok h6
      exact ⟨as, h5, h7, evA_len h2 h5⟩
    match args, h3, h4, pa, hn, ev with
    | [], h3, _, _, _, _ => cases h3
    | [a], _, _, pa, hn, ev =>
      have h0 : notStar a = true := by simpa using hn
      refine (pi_range1 gR mR pa (star_cons h0)).mono fun σ H R ⟨tg, ρ, st, ds, st', s, he, k⟩ => ?_
      obtain ⟨as, h5, h6, h7⟩ := ev _ _ _ _ he
      refine ⟨tg, ρ, st, as, _, s, h5, fun tg1 vs H1 e1 w1 r1 => ?_⟩
      match as, h7, h6, r1 with
      | [d], _, h6, r1 =>
        obtain ⟨x, rfl, rx⟩ := rbs1 r1.2
        cases d with
        | int n =>
          obtain ⟨h8, h9⟩ := if_some (show (if in62 n = true then some (rngL 0 1 n.toNat) else none) = some ds from h6)
          cases h9
          obtain ⟨h9, h10⟩ := in62_of h8
          exact ⟨n, by rw [rx.int], h9, h10, k tg1 _ H1 e1 w1 r1.1 (walk_rng 0 n.toNat)⟩
        | _ => cases h6
    | [a, b], _, _, pa, hn, ev =>
      have h0 : notStar a = true ∧ notStar b = true := by simpa using hn
      refine (pi_range2 gR mR pa (by rw [star_cons h0.1, star_cons h0.2]; rfl) (star_cons h0.2)).mono fun σ H R ⟨tg, ρ, st, ds, st', s, he, k⟩ => ?_
      obtain ⟨as, h5, h6, h7⟩ := ev _ _ _ _ he
      refine ⟨tg, ρ, st, as, _, s, h5, fun tg1 vs H1 e1 w1 r1 => ?_⟩
      match as, h7, h6, r1 with
      | [d, d2], _, h6, r1 =>
        obtain ⟨x, y, rfl, rx, ry⟩ := rbs2 r1.2
        cases d with
        | int i =>
          cases d2 with
          | int j =>
            obtain ⟨h8, h9⟩ := if_some (show (if (in62 i && in62 j) = true then some (rngL i 1 (j - i).toNat) else none) = some ds from h6)
            cases h9
            rw [Bool.and_eq_true] at h8
            obtain ⟨h9, h10⟩ := in62_of h8.1
            obtain ⟨h11, h12⟩ := in62_of h8.2
            exact ⟨i, j, by rw [rx.int, ry.int], ⟨h9, h10, h11, h12⟩, k tg1 _ H1 e1 w1 r1.1 (walk_rng i _)⟩
          | _ => cases h6
        | _ => cases h6
    | [a, b, d], _, _, pa, hn, ev =>
      have h0 : notStar a = true ∧ notStar b = true ∧ notStar d = true := by simpa using hn
      refine (pi_range3 gR mR pa (star_cons h0.1) (by rw [star_cons h0.2.1, star_cons h0.2.2]; rfl)).mono fun σ H R ⟨tg, ρ, st, ds, st', s, he, k⟩ => ?_
      obtain ⟨as, h5, h6, h7⟩ := ev _ _ _ _ he
      refine ⟨tg, ρ, st, as, _, s, h5, fun tg1 vs H1 e1 w1 r1 => ?_⟩
      match as, h7, h6, r1 with
      | [d, d2, d3], _, h6, r1 =>
        cases r1.2 with
        | cons rx r =>
          obtain ⟨y, z, rfl, ry, rz⟩ := rbs2 r
          cases d with
          | int i =>
            cases d2 with
            | int j =>
              cases d3 with
              | int e =>
                obtain ⟨h8, h9⟩ := if_some (show (if (in62 i && in62 j && decide (e = -1)) = true then some (rngL i (-1) (i - j).toNat) else none) = some ds from h6)
                cases h9
                simp only [Bool.and_eq_true, decide_eq_true_eq] at h8
                obtain ⟨⟨h8, h13⟩, rfl⟩ := h8
                obtain ⟨h9, h10⟩ := in62_of h8
                obtain ⟨h11, h12⟩ := in62_of h13
                exact ⟨i, j, -1, _, by rw [rx.int, ry.int, rz.int], RgC.neg h9 h10 h11 h12, k tg1 _ H1 e1 w1 r1.1 (walk_rngC i (-1) _)⟩
              | _ => cases h6
            | _ => cases h6
          | _ => cases h6
    | _ :: _ :: _ :: _ :: _, _, h4, _, _, _ => simp at h4
  · cases h
end
end Ev
set_option Elab.async false
set_option linter.all false
set_option maxRecDepth 100000
set_option maxHeartbeats 1000000
/-! Targets; list comprehensions; all expressions. -/
namespace Ev
open PySem PySem.Spec PyProof PyProof.Rows L2
/-! ### names -/
theorem get_put : ∀ (ρ : Rho) (i j : Nat) (s : Sl), get (put ρ i s) j = if j = i then s else get ρ j
  | [], 0, 0, s => rfl
  | [], 0, j + 1, s => rfl
  | [], i + 1, 0, s => by
    rw [if_neg (by omega)]
    rfl
  | [], i + 1, j + 1, s => by
    have h := get_put [] i j s
    show get (put [] i s) j = _
    rw [h]
    by_cases e : j = i
    · rw [if_pos e, if_pos (by omega)]
    · rw [if_neg e, if_neg (by omega)]
      rfl
  | x :: r, 0, 0, s => rfl
  | x :: r, 0, j + 1, s => by
    rw [if_neg (by omega)]
    rfl
  | x :: r, i + 1, 0, s => by
    rw [if_neg (by omega)]
    rfl
  | x :: r, i + 1, j + 1, s => by
    have h := get_put r i j s
    show get (put r i s) j = _
    rw [h]
    by_cases e : j = i
    · rw [if_pos e, if_pos (by omega)]
    · rw [if_neg e, if_neg (by omega)]
      rfl
def Tg.names : Tg → List Nat
  | .one i => [i]
  | .many is => is
theorem set_at {α : Type} {l : List α} {i j : Nat} {x : α} (h : i < l.length) : (l.set i x)[j]? = if j = i then some x else l[j]? := by
  by_cases e : j = i
  · subst e; rw [if_pos rfl, List.getElem?_set_self h]
  · rw [if_neg e, List.getElem?_set_ne (fun z => e z.symm)]
section
variable {K : PySem.W.Frag} {H : Hp} {tg : TF} {st : Sto}
/-- names bound one after another -/
def gNames : List Nat → TGs
  | [] => gNil
  | i :: is => gCons (gName i) (gNames is)
theorem names_R {t : TF} : ∀ (is : List Nat) (xs : List V) (ds : List D) (ρ ρ' : Rho) (σ : L2.St) (Q : L2.St → Hp → Prop) (S : Nat → Prop), RVs K H t xs ds → putL ρ is ds = some ρ' → (∀ i ∈ is, i < σ.length) →
    (∀ j, ¬ S j → RSl K H t j σ[j]? (get ρ j)) → (∀ σ', (∀ j, (¬ S j ∨ j ∈ is) → RSl K H t j σ'[j]? (get ρ' j)) → (∀ j, j ∉ is → σ'[j]? = σ[j]?) → σ'.length = σ.length → Q σ' H) → gNames is xs σ H Q
  | [], _, [], ρ, ρ', σ, Q, S, r, e, _, h, k => by
    cases r
    cases e
    exact ⟨rfl, k σ (fun j hj => h j (by
      rcases hj with hj | hj
      · exact hj
      · cases hj)) (fun _ _ => rfl) rfl⟩
  | i :: is, _, d :: ds, ρ, ρ', σ, Q, S, r, e, hb, h, k => by
    cases r with
    | cons rv r =>
      rename_i x xs
      have hi : i < σ.length := hb i (List.mem_cons_self ..)
      refine ⟨x, xs, rfl, ?_⟩
      refine names_R is xs ds (put ρ i (.v d)) ρ' (σ.set i (some x)) Q (fun j => S j ∧ j ≠ i) r e (fun j hj => by rw [List.length_set]; exact hb j (List.mem_cons_of_mem _ hj)) (fun j hj => ?_) fun σ' h1 h2 h3 => ?_
      · rw [get_put, set_at hi]
        by_cases e : j = i
        · rw [if_pos e, if_pos e]
          exact ⟨x, rfl, rv⟩
        · rw [if_neg e, if_neg e]
          exact h j (fun z => hj ⟨z, e⟩)
      · refine k σ' (fun j hj => h1 j ?_) (fun j hj => ?_) (by rw [h3, List.length_set])
        · rcases hj with hj | hj
          · exact .inl (fun z => hj z.1)
          · rcases List.mem_cons.mp hj with rfl | hj
            · exact .inl (fun z => z.2 rfl)
            · exact .inr hj
        · rw [h2 j (fun z => hj (List.mem_cons_of_mem _ z)), set_at hi, if_neg (fun z => hj (by rw [z]; exact List.mem_cons_self ..))]
  | [], _, _ :: _, _, _, _, _, _, _, e, _, _, _ => by cases e
  | _ :: _, _, [], _, _, _, _, _, _, e, _, _, _ => by cases e
end
/-- a target's reading: the slots that it does not write stand -/
def tmG (K : PySem.W.Frag) (N : Nat) (tg : Tg) : TG := fun v σ H Q => σ.length = N → ∃ t ρ st d ρ', Wf K H t st ∧ NoTmp t ∧ (∀ j, j ∉ tg.names → RSl K H t j σ[j]? (get ρ j)) ∧ RV K H t v d ∧ bindT tg d ρ = some ρ' ∧
  ∀ σ', StR K H t st ρ' σ' → (∀ j, j ∉ tg.names → σ'[j]? = σ[j]?) → σ'.length = σ.length → Q σ' H
/-! ### names = a list -/
section
variable {prog : Program} {w : World} {A : Around} {E : Value → Shared → Prop}
theorem isL_ext {h h' : Heap} {l it : Addr} {its : Array Value} (q : h.IsList l its) (e : Heap.ExtBut it h h') (ne : l ≠ it) : h'.IsList l its :=
  let ⟨o, g, r⟩ := q; ⟨o, e l o ne g, r⟩
/-- what is left of a list is drawn -/
theorem draw_rest {it l : Addr} (ne : l ≠ it) : ∀ (rest front : List Value) (s : Shared) (R : List Value → Shared → Prop), s.heap.IsListIter it l front.length → s.heap.IsList l (front ++ rest).toArray →
    (∀ h2, h2.IsListIter it l (front ++ rest).length → Heap.SameBut it s.heap h2 → R rest { s with heap := h2 }) → wpAny (model prog w) A (draw (.ref it) rest.length) R E s
  | [], front, s, R, i1, _, k => wpAny_pure (k s.heap (by rw [List.append_nil]; exact i1) (.refl ..))
  | x :: rest, front, s, R, i1, q, k => by
    have at_x : (front ++ x :: rest).toArray[front.length]? = some x := by simp
    have sh : front ++ x :: rest = (front ++ [x]) ++ rest := by simp
    refine wpAny_bind (wpAny_pyNext_list_item (x := x) i1 q at_x fun h1 i2 sb => wpAny_bind (wpAny_holding ?_))
    refine draw_rest ne rest (front ++ [x]) _ _ (by rw [List.length_append]; exact i2) (by rw [← sh]; exact isL_ext q sb.extBut ne) fun h2 i3 sb2 => ?_
    exact wpAny_pure (k h2 (by rw [sh]; exact i3) (sb.trans sb2))
theorem unpack_all {s : Shared} {l : Addr} {its : List Value} {R : List Value → Shared → Prop} (nh : A.handled = none) (q : s.heap.IsList l its.toArray)
    (k : ∀ h2, Heap.ExtBut s.heap.objs.size s.heap h2 → R its { s with heap := h2 }) : wpAny (model prog w) A (unpackItems (.ref l) its.length none) R E s := by
  have ne : l ≠ s.heap.objs.size := Nat.ne_of_lt (by obtain ⟨_, g, _⟩ := q; exact Heap.lt_size g)
  have q0 : (s.heap.push { cls := .type "list_iterator", data := .fields #[.ref l, .int 0 0] }).IsList l its.toArray := by
    obtain ⟨o, g, r⟩ := q; exact ⟨o, Heap.get?_push_of_some _ g, r⟩
  unfold unpackItems notIterableAtAll
  refine wpAny_bind (wpAny_bind (wpAny_specialOf q.typeIs slot_list_iter.lookup (wpAny_pure ?_)))
  rw [if_neg (by exact Bool.false_ne_true)]
  refine wpAny_bind (wpAny_holding (wpAny_pyIter_list q (wpAny_bind (wpAny_holding ?_))))
  refine draw_rest ne its [] _ _ ⟨_, Heap.get?_push_size _ rfl, rfl, rfl⟩ q0 fun h1 i1 sb => ?_
  rw [if_neg (Nat.lt_irrefl _)]
  refine wpAny_bind (wpAny_holding (wpAny_pyNext_list_end nh i1 (isL_ext q0 sb.extBut ne) (by simp) fun h2 x2 => ?_))
  exact wpAny_pure (k h2 fun b o hb g => x2 b o hb (sb.extBut b o hb (Heap.get?_push_of_some _ g)))
end
/-- (a, b, ..) = a tuple or a list of that length -/
def gSeq (K : PySem.W.Frag) (n : Nat) (t : TGs) : TG := fun v σ H Q => ∃ a xs, v = .ref a ∧ (SqT K H a xs ∨ SqL K H a xs) ∧ xs.length = n ∧ t xs σ H Q
theorem pg_seq {X : Cx} {pos : Pos} {es : List Expr} {k : Nat} {t : TGs} {n : Nat} (hc : X.calm = true) (h : PGs X es t)
    (hn : (assignEach es X.env).length = n) (hst : (assignEach es X.env).findIdx? (·.1) = none) : PG X (.Tuple es k pos) (gSeq X.K n t) where
  run pins s σ H v u Q I r hw := by
    obtain ⟨a, xs, ev, q | q, el, hw⟩ := hw
    · exact (pg_tup hc h hn hst).run pins s σ H v u Q I r ⟨a, xs, ev, q, el, hw⟩
    subst ev
    cases r
    obtain ⟨its, rv, pl, _⟩ := I.list q
    have len : (assignEach es X.env).length = its.length := by rw [hn, ← el, rv.length]
    rw [assign_Tuple]
    refine wpAny_bind (wpAny_standAt ?_)
    unfold unpack
    rw [len, hst]
    refine wpAny_bind (wpAny_holding (unpack_all (I.ok.hd hc) pl.isList fun h2 x2 => ?_))
    exact h.run pins _ σ H xs its Q (I.kept (t' := s.toks) fun b o g => x2 b o (Nat.ne_of_lt (Heap.lt_size g)) g) rv hw
section
variable {F : Nat → List D → Sto → Res (D × Bool)} {Γ : Nat → D} {X : Cx} {c : Cc}
theorem chkSt_of {i : Nat} {x : Str} (h : chkSt c i x = true) : c.N[i]? = some x ∧ isLoc c.sc x = true := by
  unfold chkSt at h
  simp only [Bool.and_eq_true, decide_eq_true_eq] at h
  exact h.1
theorem pg_st (G : Good X c F Γ) {i : Nat} {x : Str} {pos : Pos} (h : chkSt c i x = true) : PG X (.Name x pos) (gName i) := by
  obtain ⟨h1, h2⟩ := chkSt_of h
  obtain ⟨h3, h4⟩ := G.loc x h2
  exact pg_name (by rw [G.nm]; exact G.nd) (by rw [G.nm]; exact h1) h3 h4
theorem pgs_st (G : Good X c F Γ) : ∀ {is : List Nat} {ts : List Expr}, chkTs c is ts = true → PGs X ts (gNames is) ∧ (assignEach ts X.env).length = is.length ∧ (assignEach ts X.env).findIdx? (·.1) = none ∧ ∀ i ∈ is, i < c.N.length
  | [], [], _ => ⟨pgs_nil, rfl, rfl, fun _ z => by cases z⟩
  | i :: is, .Name x p :: ts, h => by
    unfold chkTs at h
    rw [Bool.and_eq_true] at h
    obtain ⟨h1, h2, h3, h4⟩ := pgs_st G h.2
    refine ⟨pgs_cons (pg_st G h.1) h1, ?_, ?_, fun j hj => ?_⟩
    · show ((false, assign (.Name x p) X.env) :: assignEach ts X.env).length = _
      rw [List.length_cons, h2] <;> rfl
    · show ((false, assign (.Name x p) X.env) :: assignEach ts X.env).findIdx? (·.1) = none
      rw [List.findIdx?_cons, h3]
      rfl
    · rcases List.mem_cons.mp hj with rfl | hj
      · exact (List.getElem?_eq_some_iff.mp (chkSt_of h.1).1).1
      · exact h4 j hj
  | [], _ :: _, h => by cases h
  | _ :: _, [], h => by cases h
  | i :: is, t :: ts, h => by
    cases t with
    | Name x p =>
      unfold chkTs at h
      rw [Bool.and_eq_true] at h
      obtain ⟨h1, h2, h3, h4⟩ := pgs_st G h.2
      refine ⟨pgs_cons (pg_st G h.1) h1, ?_, ?_, fun j hj => ?_⟩
      · show ((false, assign (.Name x p) X.env) :: assignEach ts X.env).length = _
        rw [List.length_cons, h2] <;> rfl
      · show ((false, assign (.Name x p) X.env) :: assignEach ts X.env).findIdx? (·.1) = none
        rw [List.findIdx?_cons, h3]
        rfl
      · rcases List.mem_cons.mp hj with rfl | hj
        · exact (List.getElem?_eq_some_iff.mp (chkSt_of h.1).1).1
        · exact h4 j hj
    | _ => cases h
theorem pg_len {t : Expr} {g : TG} (h : PG X t g) : PG X t (fun v σ H Q => σ.length = X.N.length → g v σ H Q) :=
  ⟨fun pins s σ H v u Q I r q => h.run pins s σ H v u Q I r (q I.len)⟩
theorem _root_.L2.PG.mono {t : Expr} {g g' : TG} (h : PG X t g) (m : ∀ v σ H Q, g' v σ H Q → g v σ H Q) : PG X t g' := ⟨fun pins s σ H v u Q I r q => h.run pins s σ H v u Q I r (m v σ H Q q)⟩
theorem pg_tg (G : Good X c F Γ) {tg : Tg} {t : Expr} (h : chkTg c tg t = true) : PG X t (tmG X.K c.N.length tg) := by
  cases tg with
  | one i =>
    cases t with
    | Name x p =>
      have h : chkSt c i x = true := h
      have hi : i < c.N.length := (List.getElem?_eq_some_iff.mp (chkSt_of h).1).1
      refine (pg_len (pg_st G h)).mono fun v σ H Q q hl => ?_
      rw [G.nm] at hl
      obtain ⟨t, ρ, st, d, ρ', w, nt, hs, rv, e, k⟩ := q hl
      cases e
      refine k _ ⟨w, nt, fun j => ?_⟩ (fun j hj => ?_) (by rw [List.length_set])
      · rw [get_put, set_at (by omega)]
        by_cases e : j = i
        · rw [if_pos e, if_pos e]
          exact ⟨v, rfl, rv⟩
        · rw [if_neg e, if_neg e]
          exact hs j (by simpa [Tg.names] using e)
      · rw [set_at (by omega), if_neg (by simpa [Tg.names] using hj)]
    | _ => cases h
  | many is =>
    cases t with
    | Tuple ts kk p =>
      have h : chkTs c is ts = true := h
      obtain ⟨h1, h2, h3, h4⟩ := pgs_st G h
      refine (pg_len (pg_seq G.calm h1 h2 h3)).mono fun v σ H Q q hl => ?_
      rw [G.nm] at hl
      obtain ⟨t, ρ, st, d, ρ', w, nt, hs, rv, e, k⟩ := q hl
      have key : ∃ ds, elems d = some ds ∧ putL ρ is ds = some ρ' := by
        cases d with
        | tup ds => exact ⟨ds, rfl, e⟩
        | lst ds => exact ⟨ds, rfl, e⟩
        | _ => cases e
      obtain ⟨ds, he, e⟩ := key
      obtain ⟨a, xs, rfl, ha, rs⟩ := (show RB X.K H t v d from .inl rv).elems he
      have len : ∀ (is : List Nat) (ds : List D) (ρ ρ' : Rho), putL ρ is ds = some ρ' → is.length = ds.length := by
        intro is
        induction is with
        | nil => intro ds ρ ρ' e; cases ds with
          | nil => rfl
          | cons _ _ => cases e
        | cons i is ih => intro ds ρ ρ' e; cases ds with
          | nil => cases e
          | cons d ds => rw [List.length_cons, List.length_cons, ih ds _ _ e]
      refine ⟨a, xs, rfl, ha.symm, by rw [rs.length, len is ds ρ ρ' e], ?_⟩
      refine names_R is xs ds ρ ρ' σ Q (fun j => j ∈ is) rs e (fun i hi => by rw [hl]; exact h4 i hi) (fun j hj => hs j hj) fun σ' g1 g2 g3 => ?_
      exact k σ' ⟨w, nt, fun j => g1 j (by by_cases z : j ∈ is <;> simp [z])⟩ g2 g3
    | _ => cases h
/-! ### the block of a comprehension -/
theorem relS_get {sc : Scope} : ∀ (names : List (Str × NameKind)) (x : Str), (names.map fun (n, k) => if (k == .free && sc.kind == .function && sc.names.lookup n == some .cell) then (n, NameKind.cell) else (n, k)).lookup x =
    (names.lookup x).map fun k => if (k == .free && sc.kind == .function && sc.names.lookup x == some .cell) then NameKind.cell else k
  | [], x => rfl
  | (n, k) :: r, x => by
    have hd : (if (k == .free && sc.kind == .function && sc.names.lookup n == some .cell) then (n, NameKind.cell) else (n, k)) = (n, if (k == .free && sc.kind == .function && sc.names.lookup n == some .cell) then NameKind.cell else k) := by split <;> rfl
    rw [List.map_cons]
    show ((if (k == .free && sc.kind == .function && sc.names.lookup n == some .cell) then (n, NameKind.cell) else (n, k)) :: _).lookup x = _
    rw [hd, List.lookup_cons, List.lookup_cons]
    cases e : x == n with
    | true =>
      have e' : x = n := eq_of_beq e
      subst e'
      rfl
    | false => exact relS_get r x
theorem Good.blk (G : Good X c F Γ) (s : Shared) (H : Hp) (scope : Scope) (C : Addr) (cl : List (Str × Addr)) (fp : List Addr) : Good (X.blk s H scope (compEnvC scope cl C X.env) fp) { c with sc := scope } F Γ := by
  have look : ∀ x k, scope.names.lookup x = some k → ∃ k', (relS scope X.env.scope).names.lookup x = some k' ∧ (k' = k ∨ (k = .free ∧ k' = .cell)) := fun x k h => by
    have := relS_get (sc := X.env.scope) scope.names x
    rw [h] at this
    refine ⟨_, this, ?_⟩
    simp only
    split
    · rename_i q
      rw [Bool.and_eq_true, Bool.and_eq_true] at q
      exact .inr ⟨by simpa using q.1.1, rfl⟩
    · exact .inl rfl
  have hs : (X.blk s H scope (compEnvC scope cl C X.env) fp).env.scope = relS scope X.env.scope := rfl
  refine { nm := G.nm, nd := G.nd, calm := G.calm, vis := fun x h => ?_, loc := fun x h => ?_, glo := fun x h => ?_, cf := fun x h => ?_, rm := G.rm, un := G.un, bl := G.bl, gls := G.gls, fns := G.fns }
  · rw [hs]
    unfold isVis at h
    split at h
    · rename_i e
      obtain ⟨k, h1, h2⟩ := look x _ e
      rcases h2 with rfl | ⟨z, _⟩
      · exact .inl h1
      · cases z
    · rename_i e
      obtain ⟨k, h1, h2⟩ := look x _ e
      rcases h2 with rfl | ⟨z, _⟩
      · exact .inr (.inl h1)
      · cases z
    · rename_i e
      obtain ⟨k, h1, h2⟩ := look x _ e
      rcases h2 with rfl | ⟨_, rfl⟩
      · exact .inr (.inr h1)
      · exact .inr (.inl h1)
    · cases h
  · rw [hs]
    unfold isLoc at h
    split at h
    · rename_i e
      obtain ⟨k, h1, h2⟩ := look x _ e
      rcases h2 with rfl | ⟨z, _⟩
      · exact ⟨.inl h1, .inr h1⟩
      · cases z
    · rename_i e
      obtain ⟨k, h1, h2⟩ := look x _ e
      rcases h2 with rfl | ⟨z, _⟩
      · refine ⟨.inr h1, .inl ?_⟩
        show (scope.names.lookup x == some NameKind.cell) = true
        have e : scope.names.lookup x = some .cell := e
        rw [e] <;> rfl
      · cases z
    · cases h
  · show (relS scope X.env.scope).names.lookup x = some .globalImplicit
    unfold isGlo at h
    split at h
    · rename_i e
      obtain ⟨k, h1, h2⟩ := look x _ e
      rcases h2 with rfl | ⟨z, _⟩
      · exact h1
      · cases z
    · cases h
  · rw [hs]
    rcases h with e | e
    · obtain ⟨k, h1, h2⟩ := look x _ e
      rcases h2 with rfl | ⟨z, _⟩
      · exact .inl h1
      · cases z
    · obtain ⟨k, h1, h2⟩ := look x _ e
      rcases h2 with rfl | ⟨_, rfl⟩
      · exact .inr h1
      · exact .inl h1
end
end Ev
set_option Elab.async false
set_option linter.all false
set_option maxRecDepth 100000
set_option maxHeartbeats 1000000
/-! List comprehensions; all expressions. -/
namespace Ev
open PySem PySem.Spec PyProof.Rows L2
theorem wipe_get (σ : L2.St) (j : Nat) : ∀ vs : List Nat, (wipe σ vs)[j]? = if j ∈ vs then (if j < σ.length then some none else none) else σ[j]?
  | [] => by simp [wipe]
  | v :: vs => by
    have ih := wipe_get σ j vs
    have hl := wipe_length σ vs
    show ((wipe σ vs).set v none)[j]? = _
    by_cases e : j = v
    · subst e
      rw [if_pos (List.mem_cons_self ..)]
      by_cases h : j < σ.length
      · rw [if_pos h, List.getElem?_set_self (by omega)]
      · rw [if_neg h, List.getElem?_eq_none (by rw [List.length_set]; omega)]
    · rw [List.getElem?_set_ne (fun z => e z.symm), ih]
      by_cases h : j ∈ vs
      · rw [if_pos h, if_pos (List.mem_cons_of_mem _ h)]
      · rw [if_neg h, if_neg (by simp [e, h])]
theorem wipe_same {σ σ' : L2.St} {vs : List Nat} (hl : σ'.length = σ.length) (h : ∀ j, j ∉ vs → σ'[j]? = (wipe σ vs)[j]?) : wipe σ' vs = wipe σ vs := by
  refine List.ext_getElem? fun j => ?_
  rw [wipe_get σ' j vs]
  by_cases e : j ∈ vs
  · rw [if_pos e, wipe_get σ j vs, if_pos e, hl]
  · rw [if_neg e, h j e]
/-- the list that grows is marked as another's while the loop runs -/
structure Lp (K : PySem.W.Frag) (D : Addr) (H1 : Hp) (tg1 : TF) (H : Hp) (tg : TF) : Prop where
  kp : Kp H1 tg1 H tg
  d : tg D = some .outer
  slot : ∀ a i, tg a = some (.slot i) → tg1 a = some (.slot i)
  out : ∀ a, tg a = some .outer → a = D ∨ tg1 a = some .outer
theorem Lp.ext {K : PySem.W.Frag} {D : Addr} {H1 H H2 : Hp} {tg1 tg tg2 : TF} {u : HO} (l : Lp K D H1 tg1 H tg) (hD : H D = some u) (e : Ext H tg H2 tg2) : Lp K D H1 tg1 H2 tg2 ∧ H2 D = some u := by
  obtain ⟨h1, h2⟩ := e.keep D _ hD (by rw [l.d]; exact fun _ z => nomatch z)
  exact ⟨⟨l.kp.trans e.kp, h2.trans l.d, fun a i h => l.slot a i (e.slot a i h), fun a h => l.out a (e.out a h)⟩, h1⟩
theorem Lp.fin {K : PySem.W.Frag} {D : Addr} {H1 H : Hp} {tg1 tg : TF} (hD : H1 D = none) (l : Lp K D H1 tg1 H tg) : Ext H1 tg1 H (mark tg D (some .tmp)) where
  keep := fun a o h t => by
    obtain ⟨h1, h2⟩ := l.kp.keep a o h t
    exact ⟨h1, by rw [mark_ne (ne_of_none h hD)]; exact h2⟩
  loc := fun a i h => by
    obtain ⟨h1, h2⟩ := l.kp.loc a i h
    have e : a ≠ D := fun z => by subst z; rw [l.d] at h1; cases h1
    exact ⟨by rw [mark_ne e]; exact h1, h2⟩
  slot := fun a i h => by
    by_cases e : a = D
    · subst e; rw [mark_same] at h; cases h
    · rw [mark_ne e] at h; exact l.slot a i h
  out := fun a h => by
    by_cases e : a = D
    · subst e; rw [mark_same] at h; cases h
    · rw [mark_ne e] at h
      rcases l.out a h with z | z
      · exact absurd z e
      · exact z
section
variable {K : PySem.W.Frag} {D : Addr} {H1 H : Hp} {tg1 tg : TF} {st : Sto}
theorem Lp.leT (l : Lp K D H1 tg1 H tg) : Le H tg H (mark tg D (some .tmp)) where
  fz := fun a o h t => ⟨h, by
    have e : a ≠ D := fun z => by subst z; rw [l.d] at t; cases t
    rw [mark_ne e]; exact t⟩
  loc := fun a i h => by
    have e : a ≠ D := fun z => by subst z; rw [l.d] at h; cases h
    rw [mark_ne e]; exact h
theorem Lp.wfT (l : Lp K D H1 tg1 H tg) (hD : H D ≠ none) (w : Wf K H tg st) : Wf K H (mark tg D (some .tmp)) st where
  dom := fun a h => by
    have e : a ≠ D := fun z => by subst z; exact hD h
    rw [mark_ne e]; exact w.dom a h
  inj := fun a b i h1 h2 => by
    have e : a ≠ D := fun z => by subst z; rw [mark_same] at h1; cases h1
    have e' : b ≠ D := fun z => by subst z; rw [mark_same] at h2; cases h2
    rw [mark_ne e] at h1
    rw [mark_ne e'] at h2
    exact w.inj a b i h1 h2
  bnd := fun a i h => by
    have e : a ≠ D := fun z => by subst z; rw [mark_same] at h; cases h
    rw [mark_ne e] at h
    exact w.bnd a i h
  sto := fun i o h => by
    obtain ⟨a, h1, h2⟩ := w.sto i o h
    have e : a ≠ D := fun z => by subst z; rw [l.d] at h1; cases h1
    exact ⟨a, by rw [mark_ne e]; exact h1, h2.mono l.leT rfl⟩
/-- an item is put behind: nothing else is touched -/
theorem Lp.put (l : Lp K D H1 tg1 H tg) (hD1 : H1 D = none) (o : HO) : Lp K D H1 tg1 (upd H D o) tg ∧ Le H tg (upd H D o) tg := by
  refine ⟨⟨⟨fun a u h t => ?_, fun a i h => ?_⟩, l.d, l.slot, l.out⟩, ⟨fun a u h t => ?_, fun _ _ h => h⟩⟩
  · obtain ⟨h1, h2⟩ := l.kp.keep a u h t
    exact ⟨by rw [upd_ne (ne_of_none h hD1)]; exact h1, h2⟩
  · obtain ⟨h1, h2⟩ := l.kp.loc a i h
    refine ⟨h1, ?_⟩
    by_cases e : a = D
    · subst e; rw [upd_same]; exact fun z => nomatch z
    · rw [upd_ne e]; exact h2
  · have e : a ≠ D := fun z => by subst z; rw [l.d] at t; cases t
    exact ⟨by rw [upd_ne e]; exact h, t⟩
theorem Lp.wfP (l : Lp K D H1 tg1 H tg) (hD1 : H1 D = none) (hD : H D ≠ none) (o : HO) (w : Wf K H tg st) : Wf K (upd H D o) tg st where
  dom := fun a h => by
    by_cases e : a = D
    · subst e; rw [upd_same] at h; cases h
    · rw [upd_ne e] at h; exact w.dom a h
  inj := w.inj
  bnd := w.bnd
  sto := fun i ob h => by
    obtain ⟨a, h1, h2⟩ := w.sto i ob h
    have e : a ≠ D := fun z => by subst z; rw [l.d] at h1; cases h1
    exact ⟨a, h1, h2.mono (l.put hD1 o).2 (upd_ne e)⟩
theorem Lp.rsl (l : Lp K D H1 tg1 H tg) (hD1 : H1 D = none) (o : HO) {i : Nat} {x : Option (Option V)} {sl : Sl} (q : RSl K H tg i x sl) : RSl K (upd H D o) tg i x sl := by
  cases sl with
  | un => trivial
  | v d =>
    obtain ⟨v, e1, r⟩ := q
    exact ⟨v, e1, r.mono (l.put hD1 o).2⟩
  | own ob =>
    obtain ⟨a, e1, t, r⟩ := q
    have e : a ≠ D := fun z => by subst z; rw [l.d] at t; cases t
    exact ⟨a, e1, t, r.mono (l.put hD1 o).2 (upd_ne e)⟩
end
/-- the first marks -/
theorem Lp.start {K : PySem.W.Frag} {D : Addr} {H1 : Hp} {tg1 : TF} (hD : H1 D = none) (w : ∀ a, H1 a = none → tg1 a = none) (o : HO) : Lp K D H1 tg1 (upd H1 D o) (mark tg1 D (some .outer)) where
  kp := ⟨fun a u h t => ⟨by rw [upd_ne (ne_of_none h hD)]; exact h, by rw [mark_ne (ne_of_none h hD)]⟩, fun a l h => by
    have e : a ≠ D := fun z => by subst z; rw [w a hD] at h; cases h
    rw [mark_ne e, upd_ne e]
    exact ⟨h, fun z => by rw [w a z] at h; cases h⟩⟩
  d := mark_same
  slot := fun a i h => by
    by_cases e : a = D
    · subst e; rw [mark_same] at h; cases h
    · rw [mark_ne e] at h; exact h
  out := fun a h => by
    by_cases e : a = D
    · exact .inl e
    · rw [mark_ne e] at h; exact .inr h
theorem Wf.outer {K : PySem.W.Frag} {D : Addr} {H1 : Hp} {tg1 : TF} {st : Sto} (hD : H1 D = none) (o : HO) (w : Wf K H1 tg1 st) : Wf K (upd H1 D o) (mark tg1 D (some .outer)) st where
  dom := fun a h => by
    by_cases e : a = D
    · subst e; rw [upd_same] at h; cases h
    · rw [upd_ne e] at h; rw [mark_ne e]; exact w.dom a h
  inj := fun a b l ha hb => by
    have e : a ≠ D := fun z => by subst z; rw [mark_same] at ha; cases ha
    have e' : b ≠ D := fun z => by subst z; rw [mark_same] at hb; cases hb
    rw [mark_ne e] at ha
    rw [mark_ne e'] at hb
    exact w.inj a b l ha hb
  bnd := fun a l ha => by
    have e : a ≠ D := fun z => by subst z; rw [mark_same] at ha; cases ha
    rw [mark_ne e] at ha
    exact w.bnd a l ha
  sto := fun l ob h => by
    obtain ⟨a, t, r⟩ := w.sto l ob h
    have e : a ≠ D := fun z => by subst z; rw [w.dom a hD] at t; cases t
    exact ⟨a, by rw [mark_ne e]; exact t, r.mono (Lp.start (K := K) hD w.dom o).kp.le (upd_ne e)⟩
section
variable {F : Nat → List D → Sto → Res (D × Bool)} {Γ : Nat → D}
theorem chki_notSet : ∀ {it : Ex} {c : Cc} {bw : Bool} {s t : Expr}, chki it c bw s t = true → notSet s = true := by
  intro it c bw s t h
  cases it with
  | seq a => unfold chki at h; rw [Bool.and_eq_true] at h; exact h.2
  | rng es => unfold chki at h; split at h <;> first | rfl | cases h
  | enu es => unfold chki at h; split at h <;> first | rfl | cases h
  | zip a b => unfold chki at h; split at h <;> first | rfl | cases h
  | _ => (unfold chki at h; cases h)
theorem tgOwn_names (c : Cc) (tg : Tg) : (tgOwn c tg).map (·.2) = tg.names := by
  cases tg with
  | one i => rfl
  | many is =>
    show (is.map _).map _ = is
    rw [List.map_map]
    exact List.map_id is
theorem lc_R {X : Cx} {N : Nat} {elt it tests : Ex} {tg : Tg} {σ : L2.St} {H : Hp} {Q : VK} (h : tmX X.K (evX F Γ (.lc elt tg it tests)) σ H Q) (hN : σ.length = N) :
    tLc (tmI X.K true (evI F Γ it)) (tmG X.K N tg) (tmC X.K (evTs F Γ tests)) (tmE X.K (evE F Γ elt)) tg.names σ H Q := by
  obtain ⟨tg0, ρ, st, r, st2, s, he, k⟩ := h
  obtain ⟨d, hd, rfl⟩ := evX_bind (by intro _ _ z; cases z) he
  obtain ⟨xs, st1, h1, h2⟩ := bind_ok (show ((evI F Γ it ρ st).bind fun xs st => if xs.length ≤ LIM then
      (lcL (fun d st => (lift (bindT tg d ρ) st).bind fun ρ' st => evTs F Γ tests ρ' st) (fun d st => (lift (bindT tg d ρ) st).bind fun ρ' st => evE F Γ elt ρ' st) xs st).bind fun ys st => .ok (.lst ys) st else .bad) = .ok d st2 from hd)
  have hl : xs.length ≤ LIM := by
    by_cases hl : xs.length ≤ LIM
    · exact hl
    · rw [if_neg hl] at h2; cases h2
  rw [if_pos hl] at h2
  generalize ht : (fun (d : D) (st : Sto) => (lift (bindT tg d ρ) st).bind fun ρ' st => evTs F Γ tests ρ' st) = test at h2
  generalize hel : (fun (d : D) (st : Sto) => (lift (bindT tg d ρ) st).bind fun ρ' st => evE F Γ elt ρ' st) = elf at h2
  obtain ⟨ys, st3, h3, h4⟩ := bind_ok h2
  cases h4
  refine ⟨tg0, ρ, st, xs, st1, s, h1, fun tg1 J H1 e1 w1 n1 walk D hD => ?_⟩
  have slots : ∀ j, j ∉ tg.names → RSl X.K H1 tg1 j (wipe σ tg.names)[j]? (get ρ j) := fun j hj => by
    rw [wipe_get, if_neg hj]
    exact (s.sl.ext e1) j
  refine ⟨fun i m H => m = xs.length - i ∧ i ≤ xs.length ∧ ∃ tgi acc das sti rest, Lp X.K D H1 tg1 H tgi ∧ NoTmp tgi ∧ Wf X.K H tgi sti ∧ H D = some (.lst acc) ∧ RVs X.K H tgi acc das ∧ das.length ≤ i ∧
    (∀ j, j ∉ tg.names → RSl X.K H tgi j (wipe σ tg.names)[j]? (get ρ j)) ∧ lcL test elf (xs.drop i) sti = .ok rest st2 ∧ ys = das ++ rest, ⟨xs.length, ?_⟩, ?_⟩
  · have l0 := Lp.start (K := X.K) hD w1.dom (.lst [])
    refine ⟨by simp, Nat.zero_le _, _, [], [], st1, ys, l0, fun a h => ?_, w1.outer hD _, upd_same, .nil, Nat.le_refl _, fun j hj => (slots j hj).kp l0.kp, h3, rfl⟩
    by_cases e : a = D
    · subst e; rw [mark_same] at h; cases h
    · rw [mark_ne e] at h; exact n1 a h
  · rintro i m H2 ⟨rfl, hi, tgi, acc, das, sti, rest, lp, nt, wf, hDH, rs, hlen, sl, hlc, hys⟩
    obtain ⟨wgo, wstop, wyld⟩ := walk H2 tgi lp.kp wf.dom
    by_cases hlt : i < xs.length
    · right
      refine ⟨wgo i hlt, _, fun H' w => ⟨xs.length - (i + 1), by omega, w⟩, fun x H3 hy => ?_⟩
      obtain ⟨d, hd1, hgrow, rv⟩ := wyld i x H3 hlt hy
      -- the heap as the item has come
      have ex : Ext H2 tgi H3 tgi := by
        rcases hgrow with rfl | ⟨p, o, hp, rfl⟩
        · exact Ext.refl wf.dom
        · exact Ext.new wf.dom hp
      have wf3 : Wf X.K H3 tgi sti := by
        rcases hgrow with rfl | ⟨p, o, hp, rfl⟩
        · exact wf
        · exact wf.new hp
      obtain ⟨lp3, hD3⟩ := lp.ext hDH ex
      have sl3 : ∀ j, j ∉ tg.names → RSl X.K H3 tgi j (wipe σ tg.names)[j]? (get ρ j) := fun j hj => (sl j hj).kp ex.kp
      have rs3 := rs.mono ex.le
      have hdrop : xs.drop i = d :: xs.drop (i + 1) := by
        rw [List.drop_eq_getElem_cons hlt]
        congr 1
        rw [List.getElem?_eq_getElem hlt] at hd1
        exact Option.some.inj hd1
      rw [hdrop] at hlc
      obtain ⟨b, stb, h5, h6⟩ := bind_ok (show ((test d sti).bind fun b st => if b then (elf d st).bind fun y st => (lcL test elf (xs.drop (i + 1)) st).bind fun ys st => .ok (y :: ys) st else lcL test elf (xs.drop (i + 1)) st) = .ok rest st2 from hlc)
      rw [← ht] at h5
      obtain ⟨ρ', stx, h7a, h8⟩ := bind_ok h5
      obtain ⟨h7, rfl⟩ := lift_ok h7a
      intro hNl
      refine ⟨tgi, ρ, stx, d, ρ', wf3, nt, sl3, rv, h7, fun σ2 s2 hj2 hl2 => ⟨wipe_same (by rw [hl2, wipe_length]) hj2, ?_⟩⟩
      refine ⟨tgi, ρ', stx, b, stb, s2, h8, fun tg4 b4 H4 e4 w4 ⟨n4, e⟩ => ?_⟩
      subst e
      obtain ⟨lp4, hD4⟩ := lp3.ext hD3 e4
      have rs4 := rs3.mono e4.le
      have sl4 : ∀ j, j ∉ tg.names → RSl X.K H4 tg4 j (wipe σ tg.names)[j]? (get ρ j) := fun j hj => (sl3 j hj).kp e4.kp
      cases b with
      | false =>
        exact ⟨rfl, by omega, tg4, acc, das, stb, rest, lp4, n4, w4, hD4, rs4, by omega, sl4, h6, hys⟩
      | true =>
        rw [if_pos rfl] at h6
        obtain ⟨y, sty, h9, h10⟩ := bind_ok h6
        obtain ⟨zs, stz, h11, h12⟩ := bind_ok h10
        cases h12
        rw [← hel] at h9
        obtain ⟨ρ2, stx2, h13a, h14⟩ := bind_ok h9
        obtain ⟨h13, rfl⟩ := lift_ok h13a
        rw [h7] at h13
        cases h13
        refine ⟨tg4, ρ', stx2, y, sty, s2.next e4 w4 n4, h14, fun tg5 v H5 e5 w5 ⟨n5, r5⟩ => ?_⟩
        obtain ⟨lp5, hD5⟩ := lp4.ext hD4 e5
        have hal : acc.length = das.length := rs.length
        have hle : acc.length < LIM := by omega
        refine ⟨acc, hD5, by rw [sizeLine_eq]; exact hle, ?_⟩
        obtain ⟨lp6, le6⟩ := lp5.put hD (.lst (acc ++ [v]))
        refine ⟨rfl, by omega, tg5, acc ++ [v], das ++ [y], sty, zs, lp6, n5, lp5.wfP hD (by rw [hD5]; exact fun z => nomatch z) _ w5, upd_same, ?_, by rw [List.length_append]; simp; omega, fun j hj => lp5.rsl hD _ ((sl4 j hj).kp e5.kp), h11, by rw [hys]; simp⟩
        exact RVs.append ((rs4.mono e5.le).mono le6) (.cons (r5.mono le6) .nil)
    · left
      have hi' : i = xs.length := by omega
      subst hi'
      refine ⟨wstop, ?_⟩
      rw [List.drop_length] at hlc
      cases hlc
      rw [List.append_nil] at hys
      subst hys
      refine k (mark tgi D (some .tmp)) (.ref D) H2 (e1.trans (lp.fin hD)) (lp.wfT (by rw [hDH]; exact fun z => nomatch z) wf) ?_
      refine ⟨D, .lst ys, rfl, mark_same, fun b hb => ?_, ⟨acc, hDH, rs.mono lp.leT⟩, rfl⟩
      by_cases e : b = D
      · exact e
      · rw [mark_ne e] at hb; exact absurd hb (nt b)
theorem pe_len {X : Cx} {e : Expr} {t : TE} (h : PE X e t) : PE X e (fun σ H Q => σ.length = X.N.length → t σ H Q) := ⟨fun pins s σ H Q I q => h.run pins s σ H Q I (q I.len)⟩
/-- the parts of a comprehension -/
structure LcOk (X : Cx) (c : Cc) (F : Nat → List D → Sto → Res (D × Bool)) (Γ : Nat → D) (elt : Ex) (tg : Tg) (it tests : Ex) (e t i : Expr) (ifs : List Expr) (scope : Scope) : Prop where
  hi : PI X t i (tmI X.K true (evI F Γ it))
  ok : BlkOk X.N X.env.scope scope (tgOwn c tg)
  hg : ∀ (s : Shared) (H : Hp) (C : Addr) (cl : List (Str × Addr)) (fp : List Addr), PG (X.blk s H scope (compEnvC scope cl C X.env) fp) t (tmG X.K c.N.length tg)
  ht : ∀ (s : Shared) (H : Hp) (C : Addr) (cl : List (Str × Addr)) (fp : List Addr), PTs (X.blk s H scope (compEnvC scope cl C X.env) fp) ifs (tmC X.K (evTs F Γ tests))
  he : ∀ (s : Shared) (H : Hp) (C : Addr) (cl : List (Str × Addr)) (fp : List Addr), PE (X.blk s H scope (compEnvC scope cl C X.env) fp) e (tmE X.K (evE F Γ elt))
  hs : ∀ x, foldedSetIterable i X.env x = pure x
theorem lc_ok {X : Cx} {c : Cc} {elt it tests : Ex} {tg : Tg} {e t i : Expr} {ifs : List Expr} {scope : Scope} (Se : Snd F Γ elt) (Si : Snd F Γ it) (St : Snd F Γ tests) (G : Good X c F Γ)
    (h1 : chki it c true i t = true) (h2 : blkC c.N c.sc scope (tgOwn c tg) = true) (h3 : chkTg { c with sc := scope } tg t = true) (h4 : chk elt { c with sc := scope } false e = true) (h5 : chkt tests { c with sc := scope } ifs = true) :
    LcOk X c F Γ elt tg it tests e t i ifs scope where
  hi := Si.i X c true i t G h1
  ok := by
    have ok := blkOk_by h2
    exact ⟨ok.kind, ok.uniq, by rw [G.nm]; exact ok.ix, fun y hy e => G.cf _ (ok.free y hy e), by rw [G.nm]; exact ok.own⟩
  hg := fun s H C cl fp => pg_tg (G.blk s H scope C cl fp) h3
  ht := fun s H C cl fp => St.ts _ _ _ (G.blk s H scope C cl fp) h5
  he := fun s H C cl fp => Se.e (G.blk s H scope C cl fp) h4
  hs := fun x => no_fold (chki_notSet h1) x
theorem snd_lc {elt it tests : Ex} {tg : Tg} (Se : Snd F Γ elt) (Si : Snd F Γ it) (St : Snd F Γ tests) : Snd F Γ (.lc elt tg it tests) := by
  refine Snd.plain nol (fun X c s G h => ?_) (by intro _ _; unfold chko; rfl)
  unfold chk at h
  split at h
  · simp only [Bool.and_eq_true, beq_iff_eq] at h
    obtain ⟨⟨⟨⟨⟨rfl, h1⟩, h2⟩, h3⟩, h4⟩, h5⟩ := h
    have L := lc_ok (F := F) (Γ := Γ) Se Si St G h1 h2 h3 h4 h5
    refine ⟨(pe_len (pe_lc G.calm (by rw [G.nm]; exact G.nd) L.hi L.ok L.hg L.ht L.he L.hs)).mono fun σ H Q w hl => ?_, fun _ => rfl⟩
    rw [tgOwn_names]
    exact lc_R w (by rw [hl, G.nm])
  · cases h
/-! ### dicts -/
theorem pairs_of {K : PySem.W.Frag} {H : Hp} {tg : TF} : ∀ {ps : List (V × V)} {ds : List D} {kvs : List (D × D)}, RVs K H tg (flat ps) ds → pairsD ds = some kvs → kvs.all (fun p => keyD false p.1) = true →
    ∃ ks : List (Key × V), ps = ks.map (fun kv => (kV kv.1, kv.2)) ∧ RVk K H tg ks kvs
  | [], _, kvs, r, e, _ => by
    cases r
    cases e
    exact ⟨[], rfl, .nil⟩
  | p :: ps, _, kvs, r, e, h => by
    cases r with
    | cons rk r =>
      cases r with
      | cons rv r =>
        rename_i ek dk ev
        obtain ⟨kr, h1, rfl⟩ := Option.map_eq_some_iff.mp (show (pairsD ev).map ((ek, dk) :: ·) = some kvs from e)
        rw [List.all_cons, Bool.and_eq_true] at h
        obtain ⟨ks, h2, h3⟩ := pairs_of r h1 h.2
        obtain ⟨ky, h4, h5⟩ := key_k (.inl rk) h.1
        have h5 : ek = kD ky := h5
        subst h5
        exact ⟨(ky, p.2) :: ks, by rw [List.map_cons, ← h2, ← h4], .cons rv h3⟩
theorem merge_of {K : PySem.W.Frag} {H : Hp} {tg : TF} : ∀ {ks : List (Key × V)} {kvs : List (D × D)} {as : List (Key × V)} {bs : List (D × D)}, RVk K H tg ks kvs → RVk K H tg as bs → RVk K H tg (mergeK as ks) (kvs.foldl (fun m p => dput p.1 p.2 m) bs)
  | [], _, as, bs, r, q => by cases r; exact q
  | (k, x) :: ks, _, as, bs, r, q => by
    cases r with
    | cons rv r' =>
      have h := merge_of (ks := ks) (as := putK as k x) r' (put_k rv q)
      exact h
theorem snd_dict {k : Bool} {ps : Ex} (Sp : Snd F Γ ps) : Snd F Γ (.dict k ps) := by
  refine Snd.plain nol (fun X c s G h => ?_) (by intro _ _; unfold chko; rfl)
  unfold chk at h
  split at h
  · simp only [Bool.and_eq_true, decide_eq_true_eq] at h
    obtain ⟨⟨h1, h2⟩, h3⟩ := h
    rename_i ks vs pos
    refine ⟨?_, fun _ => rfl⟩
    obtain ⟨trs, g1, g2, g3, g4⟩ := Sp.pk X c ks vs G h1
    have ev : ∀ {ρ : Rho} {st st' : Sto} {r : D × Bool}, evX F Γ (.dict k ps) ρ st = .ok r st' → ∃ ds d, evA F Γ ps ρ st = .ok ds st' ∧ dispD k ds = some d ∧ r = (d, true) := fun {ρ st st' r} he => by
      obtain ⟨d, hd, rfl⟩ := evX_bind (by intro _ _ z; cases z) he
      obtain ⟨ds, st1, q1, q2⟩ := bind_ok (show ((evA F Γ ps ρ st).bind fun ds st => (lift (dispD k ds) st).bind fun d st => .ok d st) = .ok d st' from hd)
      obtain ⟨d', st2, q3a, q4⟩ := bind_ok q2
      obtain ⟨q3, rfl⟩ := lift_ok q3a
      cases q4
      exact ⟨ds, d, q1, q3, rfl⟩
    cases ks with
    | nil =>
      have hv : vs = [] := List.length_eq_zero_iff.mp (by rw [← g3]; rfl)
      subst hv
      have hds : ∀ {ρ : Rho} {st st' : Sto} {ds : List D}, evA F Γ ps ρ st = .ok ds st' → ds = [] ∧ st' = st := fun {ρ st st' ds} he => by
        cases ps with
        | nil => cases he; exact ⟨rfl, rfl⟩
        | cons _ _ => unfold chkpk at h1; cases h1
        | _ => (unfold chkpk at h1; cases h1)
      have fin : ∀ {σ : L2.St} {H : Hp} {Q : VK}, tmX X.K (evX F Γ (.dict k ps)) σ H Q → ∀ p, H p = none → ∀ o : HO, (o = if k = true then HO.dT [] else HO.dK []) → Q (.ref p) (upd H p o) := fun {σ H Q} ⟨tg, ρ, st, r, st', s, he, kk⟩ p hp o ho => by
        obtain ⟨ds, d, q1, q2, rfl⟩ := ev he
        obtain ⟨rfl, rfl⟩ := hds q1
        have q2 : (if (([] : List (D × D)).length ≤ 15 ∧ ([] : List (D × D)).all (fun p => keyD k p.1) = true) ∧ (k = true → ([] : List (D × D)) = []) then some (D.dct k []) else none) = some d := q2
        obtain ⟨_, q2⟩ := if_some q2
        cases q2
        refine kk _ _ _ (Ext.newT s.wf.dom hp) (s.wf.newT hp) ⟨p, .dct k [], rfl, mark_same, fun b hb => ?_, ?_, rfl⟩
        · by_cases e : b = p
          · exact e
          · rw [mark_ne e] at hb; exact absurd hb (s.nt b)
        · subst ho
          cases k with
          | false => exact ⟨[], upd_same, .nil⟩
          | true => exact ⟨[], upd_same, .nil⟩
      cases k with
      | false => exact pe_dnewK.mono fun σ H Q w p hp => fin w p hp _ rfl
      | true => exact pe_dnewT.mono fun σ H Q w p hp => fin w p hp _ rfl
    | cons k0 ks0 =>
      cases k with
      | true => cases h3
      | false =>
        refine (pe_disp (g1 pos) g4 g3 (fun z => nomatch z) h2).mono fun σ H Q ⟨tg, ρ, st, r, st', s, he, kk⟩ p hp => ?_
        obtain ⟨ds, d, q1, q2, rfl⟩ := ev he
        have l0 := Lp.start (K := X.K) hp s.wf.dom (.dK [])
        have nt0 : NoTmp (mark tg p (some .outer)) := fun a h => by
          by_cases e : a = p
          · subst e; rw [mark_same] at h; cases h
          · rw [mark_ne e] at h; exact s.nt a h
        refine g2 σ _ _ ⟨_, ρ, st, ds, st', ⟨s.wf.outer hp _, nt0, fun j => (s.sl j).kp l0.kp⟩, q1, fun tg2 qs H2 e2 w2 ⟨n2, rs⟩ => ?_⟩
        obtain ⟨l2, hD2⟩ := l0.ext upd_same e2
        refine ⟨hD2, ?_⟩
        obtain ⟨kvs, q3, q4⟩ := Option.bind_eq_some_iff.mp q2
        obtain ⟨⟨⟨q5, q6⟩, _⟩, q7⟩ := if_some q4
        cases q7
        obtain ⟨kk', e3, rk⟩ := pairs_of rs q3 q6
        obtain ⟨l3, le3⟩ := l2.put hp (.dK (mergeK [] kk'))
        refine ⟨kk', e3, by rw [rk.length]; exact q5, ?_⟩
        have hne : H2 p ≠ none := by rw [hD2]; exact fun z => nomatch z
        refine kk (mark tg2 p (some .tmp)) _ _ (l3.fin hp) (l3.wfT (by rw [upd_same]; exact fun z => nomatch z) (l2.wfP hp hne _ w2)) ⟨p, .dct false (kvs.foldl (fun m p => dput p.1 p.2 m) []), rfl, mark_same, fun b hb => ?_, ?_, rfl⟩
        · by_cases e : b = p
          · exact e
          · rw [mark_ne e] at hb; exact absurd hb (n2 b)
        · exact ⟨_, upd_same, merge_of ((rk.mono le3).mono l3.leT) .nil⟩
  · cases h
/-- a result becomes a thing of the store -/
theorem share_tag {K : PySem.W.Frag} {H H' : Hp} {tg tg' : TF} {st : Sto} {a : Addr} {o : Ob} (nt : NoTmp tg) (ex : Ext H tg H' tg') (w : Wf K H' tg' st) (ta : tg' a = some .tmp) (u : ∀ b, tg' b = some .tmp → b = a) (ro : RO K H' tg' a o) :
    Ext H tg H' (mark tg' a (some (.loc st.length))) ∧ Wf K H' (mark tg' a (some (.loc st.length))) (st ++ [o]) ∧ NoTmp (mark tg' a (some (.loc st.length))) := by
  have le : Le H' tg' H' (mark tg' a (some (.loc st.length))) := by
    refine ⟨fun b x h z => ⟨h, ?_⟩, fun b l h => ?_⟩
    · have q : b ≠ a := fun q => by subst q; rw [ta] at z; cases z
      rw [mark_ne q]; exact z
    · have q : b ≠ a := fun q => by subst q; rw [ta] at h; cases h
      rw [mark_ne q]; exact h
  refine ⟨⟨fun b x h z => ?_, fun b l h => ?_, fun b i h => ?_, fun b h => ?_⟩, ⟨fun b h => ?_, fun b b' l h1 h2 => ?_, fun b l h => ?_, fun l ob h => ?_⟩, fun b hb => ?_⟩
  · obtain ⟨h1, h2⟩ := ex.keep b x h z
    have q : b ≠ a := fun q => by subst q; rw [ta] at h2; exact nt b h2.symm
    exact ⟨h1, by rw [mark_ne q]; exact h2⟩
  · obtain ⟨h1, h2⟩ := ex.loc b l h
    have q : b ≠ a := fun q => by subst q; rw [ta] at h1; cases h1
    exact ⟨by rw [mark_ne q]; exact h1, h2⟩
  · have q : b ≠ a := fun q => by subst q; rw [mark_same] at h; cases h
    rw [mark_ne q] at h; exact ex.slot b i h
  · have q : b ≠ a := fun q => by subst q; rw [mark_same] at h; cases h
    rw [mark_ne q] at h; exact ex.out b h
  · by_cases q : b = a
    · subst q; exact absurd h ro.some
    · rw [mark_ne q]; exact w.dom b h
  · by_cases q : b = a
    · by_cases q' : b' = a
      · rw [q, q']
      · subst q
        rw [mark_same] at h1
        rw [mark_ne q'] at h2
        cases h1
        exact absurd (w.bnd b' _ h2) (Nat.lt_irrefl _)
    · by_cases q' : b' = a
      · subst q'
        rw [mark_same] at h2
        rw [mark_ne q] at h1
        cases h2
        exact absurd (w.bnd b _ h1) (Nat.lt_irrefl _)
      · rw [mark_ne q] at h1
        rw [mark_ne q'] at h2
        exact w.inj b b' l h1 h2
  · rw [List.length_append, List.length_singleton]
    by_cases q : b = a
    · subst q; rw [mark_same] at h; cases h; exact Nat.lt_succ_self _
    · rw [mark_ne q] at h
      exact Nat.lt_succ_of_lt (w.bnd b l h)
  · by_cases hl : l < st.length
    · rw [List.getElem?_append_left hl] at h
      obtain ⟨b, h1, h2⟩ := w.sto l ob h
      have q : b ≠ a := fun q => by subst q; rw [ta] at h1; cases h1
      exact ⟨b, by rw [mark_ne q]; exact h1, h2.mono le rfl⟩
    · rw [List.getElem?_append_right (by omega)] at h
      have hl2 : l = st.length := by
        obtain ⟨h1, _⟩ := List.getElem?_eq_some_iff.mp h
        rw [List.length_singleton] at h1
        omega
      subst hl2
      rw [Nat.sub_self] at h
      cases h
      exact ⟨a, mark_same, ro.mono le rfl⟩
  · by_cases q : b = a
    · subst q; rw [mark_same] at hb; cases hb
    · rw [mark_ne q] at hb; exact q (u b hb)
theorem snd_share {e : Ex} (Se : Snd F Γ e) : Snd F Γ (.share e) := by
  refine Snd.plain nol (fun X c s G h => ?_) (by intro _ _; unfold chko; rfl)
  unfold chk at h
  rw [Bool.and_eq_true] at h
  obtain ⟨h0, h1⟩ := h
  cases e with
  | dict k ps =>
    refine ⟨(Se.x X c s G h1).mono fun σ H Q ⟨tg, ρ, st, r, st', s', he, kk⟩ => ?_, fun _ => ?_⟩
    · obtain ⟨d, hd, rfl⟩ := evX_bind (by intro _ _ z; cases z) he
      obtain ⟨d', st1, q1, q2⟩ := bind_ok (show ((evE F Γ (.dict k ps) ρ st).bind fun d st => match d with
        | .lst ds => Res.ok (.ref st.length) (st ++ [.lst ds])
        | .dct k kvs => .ok (.ref st.length) (st ++ [.dct k kvs])
        | _ => .bad) = .ok d st' from hd)
      obtain ⟨fr, hx⟩ := evX_of (F := F) (Γ := Γ) q1
      have hfr : fr = true := by
        obtain ⟨d2, e1, e2⟩ := evX_bind (F := F) (Γ := Γ) (by intro _ _ z; cases z) hx
        have := congrArg Prod.snd e2
        exact this
      subst hfr
      refine ⟨tg, ρ, st, (d', true), st1, s', hx, fun tg' v H' ex w rx => ?_⟩
      obtain ⟨a, o, rfl, ta, u, ro, ed⟩ := rx
      have ed : d' = o.toD := ed
      have fin : d = .ref st1.length ∧ st' = st1 ++ [o] := by
        subst ed
        cases o with
        | lst ds => cases q2; exact ⟨rfl, rfl⟩
        | dct k kvs => cases q2; exact ⟨rfl, rfl⟩
      obtain ⟨rfl, rfl⟩ := fin
      obtain ⟨e1, w1, n1⟩ := share_tag s'.nt ex w ta u ro
      exact kk _ _ _ e1 w1 ⟨n1, .ref mark_same⟩
    · revert h1
      unfold chk
      intro h1
      split at h1
      · rfl
      · cases h1
  | _ => cases h0
theorem obV_R {K : PySem.W.Frag} {H : Hp} {tg : TF} {st : Sto} {ρ : Rho} {σ : L2.St} {i : Nat} {o : Ob} (s : StR K H tg st ρ σ) (h : obV ρ st i = some o) : ∃ a, σ[i]? = some (some (.ref a)) ∧ ROr K H tg a o := by
  unfold obV at h
  have q := s.sl i
  cases hs : get ρ i with
  | un => rw [hs] at h; cases h
  | own ob => rw [hs] at h q; cases h; obtain ⟨a, e1, _, ro⟩ := q; exact ⟨a, e1, ro.r⟩
  | v d =>
    rw [hs] at h q
    obtain ⟨v, e1, r⟩ := q
    cases d with
    | ref l =>
      cases r with
      | ref t =>
        obtain ⟨b, tb, ro⟩ := s.wf.sto l o h
        have hb := s.wf.inj b _ l tb t
        subst hb
        exact ⟨b, e1, ro.r⟩
    | dct kd kvs =>
      cases h
      cases r with
      | dK h t r => exact ⟨_, e1, _, h, r⟩
      | dT h t r => exact ⟨_, e1, _, h, r⟩
    | _ => cases h
theorem isD_of {K : PySem.W.Frag} {H : Hp} {tg : TF} {a : Addr} {kd : Bool} {kvs : List (D × D)} (ro : ROr K H tg a (.dct kd kvs)) : IsD H a := by
  cases kd with
  | false => obtain ⟨ks, h, _⟩ := ro; exact .inl ⟨ks, h⟩
  | true => obtain ⟨ks, h, _⟩ := ro; exact .inr ⟨ks, .of h⟩
theorem snd_dget {i : Nat} {k x : Ex} (Sk : Snd F Γ k) (Sx : Snd F Γ x) : Snd F Γ (.dget i k x) := by
  refine Snd.val nol (fun _ => rfl) (fun X c s G h => ?_)
  unfold chk at h
  split at h
  · simp only [Bool.and_eq_true, decide_eq_true_eq] at h
    obtain ⟨⟨⟨⟨⟨⟨rfl, h1⟩, h2⟩, h3⟩, h4⟩, h5⟩, h6⟩ := h
    rename_i y py apos sk sx cpos
    have hst1 := star_cons (es := [sx]) (env := X.env) h4
    have hst2 := star_cons (es := []) (env := X.env) h5
    refine ⟨(pe_dget2 (by have := G.un; omega) (pe_name G h1) (Sk.b X c _ G h2) (Sx.e G h3) ⟨rfl, by rw [hst1, hst2]; rfl, h6, by rw [hst1, hst2]; rfl⟩).mono fun σ H Q ⟨tg, ρ, st, g, st', s, he, kk⟩ => ?_, fun _ => rfl⟩
    have he : (match obV ρ st i with
      | some (.dct _ _) => (evE F Γ k ρ st).bind fun y st => (evE F Γ x ρ st).bind fun z st => match obV ρ st i with
        | some (.dct kd kvs) => if keyD kd y then .ok ((dlook y kvs).getD z) st else .bad
        | _ => .bad
      | _ => .bad) = .ok g st' := he
    cases ho : obV ρ st i with
    | none => rw [ho] at he; cases he
    | some ob =>
      cases ob with
      | lst _ => rw [ho] at he; cases he
      | dct kd0 kvs0 =>
        rw [ho] at he
        obtain ⟨a, ea, ro⟩ := obV_R s ho
        obtain ⟨dy, st1, h7, h8⟩ := bind_ok he
        obtain ⟨dz, st2, h9, h10⟩ := bind_ok h8
        refine ⟨.ref a, ea, a, rfl, isD_of ro, tg, ρ, st, dy, st1, s, h7, fun tg1 yv H1 e1 w1 r1 => ?_⟩
        have s1 := s.next e1 w1 r1.1
        refine ⟨tg1, ρ, st1, dz, st2, s1, h9, fun tg2 zv H2 e2 w2 r2 => ?_⟩
        have s2 := s1.next e2 w2 r2.1
        cases ho2 : obV ρ st2 i with
        | none => rw [ho2] at h10; cases h10
        | some ob2 =>
          cases ob2 with
          | lst _ => rw [ho2] at h10; cases h10
          | dct kd kvs =>
            rw [ho2] at h10
            obtain ⟨a2, ea2, ro2⟩ := obV_R s2 ho2
            rw [ea] at ea2
            cases ea2
            by_cases hk : keyD kd dy = true
            · have h10 : (if keyD kd dy = true then Res.ok ((dlook dy kvs).getD dz) st2 else .bad) = .ok g st' := h10
              rw [if_pos hk] at h10
              cases h10
              obtain ⟨o, gg, r⟩ := dget_ofR ro2 (r1.2.ext e2) hk
              refine ⟨o, gg, ?_⟩
              rcases r with ⟨rfl, r⟩ | ⟨v, d, rfl, r, rv⟩
              · rw [r] at kk
                exact kk tg2 _ H2 (e1.trans e2) w2 r2
              · rw [r] at kk
                exact kk tg2 _ H2 (e1.trans e2) w2 ⟨r2.1, rv⟩
            · have h10 : (if keyD kd dy = true then Res.ok ((dlook dy kvs).getD dz) st2 else .bad) = .ok g st' := h10
              rw [if_neg hk] at h10
              cases h10
  · cases h
theorem snd : ∀ e : Ex, Snd F Γ e
  | .nil => snd_nil
  | .cons a b => snd_cons (snd a) (snd b)
  | .cint i => snd_cint i
  | .cstr i => snd_cstr i
  | .cbl i => snd_cbl i
  | .cnon => snd_cnon
  | .var i => snd_var i
  | .bor i => snd_bor i
  | .own i => snd_bad nol (by intro _ _; unfold chk; rfl) (by intro _ _; unfold chko; rfl)
  | .glob g => snd_glob g
  | .bin op a b => snd_bin (snd a) (snd b)
  | .neg a => snd_neg (snd a)
  | .not a => snd_not (snd a)
  | .cmp op a b => snd_cmp (snd a) (snd b)
  | .chain p q a b d => snd_chain (snd a) (snd b) (snd d)
  | .chain3 p q r a b d e => snd_chain3 (snd a) (snd b) (snd d) (snd e)
  | .isc n a k => snd_isc (snd a)
  | .and es => snd_and (snd es)
  | .or es => snd_or (snd es)
  | .ife t a b => snd_ife (snd t) (snd a) (snd b)
  | .tup es => snd_tup (snd es)
  | .list es => snd_list (snd es)
  | .dict k ps => snd_dict (snd ps)
  | .ix a i => snd_ix (snd a) (snd i)
  | .ixr i k => snd_ixr (snd k)
  | .inr n k i => snd_inr (snd k)
  | .sl a lo hi => snd_sl (snd a) (snd lo) (snd hi)
  | .slr a => snd_slr (snd a)
  | .call f es => snd_call (snd es)
  | .bi b es => snd_bi (snd es)
  | .isi a t => snd_isi (snd a)
  | .dget i k x => snd_dget (snd k) (snd x)
  | .index a x => snd_bad nol (by intro _ _; unfold chk; rfl) (by intro _ _; unfold chko; rfl)
  | .lc elt tg it tests => snd_lc (snd elt) (snd it) (snd tests)
  | .share e => snd_share (snd e)
  | .lvals a => snd_lvals (snd a)
  | .seq a => snd_seq (snd a)
  | .rng es => snd_rng (snd es)
  | .enu a => snd_enu (snd a)
  | .zip a b => snd_zip (snd a) (snd b)
  | .items a => snd_bad nol (by intro _ _; unfold chk; rfl) (by intro _ _; unfold chko; rfl)
end
end Ev
set_option Elab.async false
set_option linter.all false
set_option maxRecDepth 100000
set_option maxHeartbeats 1000000
/-! Statements: the look, and what stands around. -/
namespace Ev
open PySem PySem.Spec PyProof.Rows L2
def isLocal (sc : Scope) (x : Str) : Bool := match sc.names.lookup x with
  | some .local => true
  | _ => false
/-- name = comprehension: is the value stored inside? -/
def swB (sc : Scope) (x : Str) (px : Pos) : Expr → Bool
  | .ListComp _ _ s vp => isLocal sc x && px.line == vp.line && !(s.names.any fun (n, k) => n == x && (k == .local || k == .cell))
  | _ => false
def isComp : Expr → Bool
  | .ListComp .. => true
  | .SetComp .. => true
  | .DictComp .. => true
  | _ => false
def notOther : Expr → Bool
  | .SetComp .. => false
  | .DictComp .. => false
  | _ => true
def notTuple : Expr → Bool
  | .Tuple .. => false
  | _ => true
/-- which names a pair of tuples is stored to from the right: 0: as a tuple; 1: so; 2: neither -/
def swNames (sc : Scope) (ts : List Expr) : List Str :=
  ts.filterMap fun | .Name id pos => if isLocal sc id && pos.line == (ts.head?.map (·.pos.line)).getD 0 then some id else none | _ => none
def swP (sc : Scope) (ts vs : List Expr) : Nat :=
  if (!(ts.length == 2 || ts.length == 3) || vs.length != ts.length) = true then 0
  else if ((swNames sc ts).length != ts.length || (swNames sc ts).eraseDups.length != (swNames sc ts).length) = true then 0
  else if vs.all (foldedForSure 8) = true then 0
  else if vs.all (constantsAlone 8) = true then 2 else 1
def nodupB : List Nat → Bool
  | [] => true
  | i :: is => !is.contains i && nodupB is
def ghost : Stm → Bool
  | .fz _ => true
  | .shr _ => true
  | _ => false
def isLC : Ex → Bool
  | .lc .. => true
  | _ => false
def varOf (c : Cc) (x : Str) : Ex → Bool
  | .var i => chkN c i x
  | _ => false
mutual
def chkB : Stm → Cc → List Stmt → Bool
  | .skip, _, ss => match ss with | [] => true | _ => false
  | .seq s t, c, ss => if ghost s then chkB t c ss else match ss with
    | s0 :: ss => chkS s c s0 && chkB t c ss
    | [] => false
  | _, _, _ => false
def chkS : Stm → Cc → Stmt → Bool
  | .asg i e, c, s => match s with | .Assign [.Name x px] v _ => chkSt c i x && chk e c false v && notOther v && (!swB c.sc x px v || isLC e) | _ => false
  | .asgo i e, c, s => match s with | .Assign [.Name x px] v _ => chkSt c i x && chk e c false v && notOther v && (!swB c.sc x px v || isLC e) | _ => false
  | .tasg is e, c, s => match s with | .Assign [.Tuple ts _ _] v _ => chkTs c is ts && chk e c false v && notTuple v | _ => false
  | .pasg is os es, c, s => match s with
    | .Assign [.Tuple ts _ _] (.Tuple vs _ _) _ => chkTs c is ts && chks es c false vs && nodupB is && ts.length == vs.length && decide (vs.length ≤ 1000) && (swP c.sc ts vs == 0 || (swP c.sc ts vs == 1 && (ts.length == 2 || ts.length == 3)))
    | _ => false
  | .setix i k e, c, s => match s with | .Assign [.Subscript (.Name x _) ks _] v _ => chkN c i x && chk k c true ks && notSlice ks && chk e c false v | _ => false
  | .swap i a b es, c, s => match s with
    | .Assign [.Tuple [.Subscript (.Name x _) ks _, .Subscript (.Name y _) ls _] _ _] (.Tuple vs _ _) _ => chkN c i x && chkN c i y && chk a c true ks && chk b c true ls && notSlice ks && notSlice ls && chks es c false vs && vs.length == 2
    | _ => false
  | .app i e, c, s => match s with | .Expr (.Call (.Attribute (.Name x _) m apos) [v] [] cpos) _ => decide (m = "append") && chkN c i x && chk e c false v && notStar v && (apos.endLine == cpos.line) | _ => false
  | .exp e, c, s => match s with | .Expr v _ => chk e c false v && !isComp v | _ => false
  | .ite t a b, c, s => match s with | .If x p q _ => chk t c false x && notIf x && chkB a c p && chkB b c q | _ => false
  | .whl t b, c, s => match s with | .While x p [] _ => chk t c false x && notIf x && chkB b c p | _ => false
  | .forin tg it b, c, s => match it with
    | .items a => match s with
      | .For t (.Call (.Attribute (.Name x _) m apos) [] [] cpos) p [] _ => chkTg c tg t && isTup t && varOf c x a && decide (m = "items") && (apos.endLine == cpos.line) && chkB b c p
      | _ => false
    | it => match s with | .For t i p [] _ => chkTg c tg t && chki it c false i t && chkB b c p | _ => false
  | .ret e, c, s => match s with
    | .Return (some v) _ => chk e c false v || (match e with | .own i => (match v with | .Name x _ => chkN c i x | _ => false) | _ => false)
    | .Return none _ => match e with | .cnon => true | _ => false
    | _ => false
  | .brk, _, s => match s with | .Break _ => true | _ => false
  | .cnt, _, s => match s with | .Continue _ => true | _ => false
  | .pass, _, s => match s with | .Pass _ => true | .Expr (.Constant (.str _) _ _) _ => true | _ => false
  | .never, _, _ => true
  | _, _, _ => false
end
/-- what a statement does: what is nobody's to change stands, the store only grows -/
structure ExtS (H : Hp) (tg : TF) (H' : Hp) (tg' : TF) : Prop where
  keep : ∀ a o, H a = some o → (tg a = none ∨ tg a = some .outer) → H' a = some o ∧ tg' a = tg a
  loc : ∀ a l, tg a = some (.loc l) → tg' a = some (.loc l) ∧ H' a ≠ none
  out : ∀ a, tg' a = some .outer → tg a = some .outer
theorem ExtS.refl {H : Hp} {tg : TF} (w : ∀ a, H a = none → tg a = none) : ExtS H tg H tg := ⟨fun _ _ h _ => ⟨h, rfl⟩, fun a l h => ⟨h, fun z => by rw [w a z] at h; cases h⟩, fun _ h => h⟩
theorem ExtS.trans {H H1 H2 : Hp} {tg tg1 tg2 : TF} (a : ExtS H tg H1 tg1) (b : ExtS H1 tg1 H2 tg2) : ExtS H tg H2 tg2 where
  keep := fun x o h t => by
    obtain ⟨h1, t1⟩ := a.keep x o h t
    obtain ⟨h2, t2⟩ := b.keep x o h1 (by rw [t1]; exact t)
    exact ⟨h2, t2.trans t1⟩
  loc := fun x l h => b.loc x l (a.loc x l h).1
  out := fun x h => a.out x (b.out x h)
theorem ExtS.le {H H1 : Hp} {tg tg1 : TF} (a : ExtS H tg H1 tg1) : Le H tg H1 tg1 := ⟨fun x o h t => let ⟨h1, t1⟩ := a.keep x o h (.inl t); ⟨h1, t1.trans t⟩, fun x l h => (a.loc x l h).1⟩
theorem Ext.s {H H1 : Hp} {tg tg1 : TF} (a : Ext H tg H1 tg1) : ExtS H tg H1 tg1 where
  keep := fun x o h t => a.keep x o h (by rcases t with t | t <;> (rw [t]; exact fun _ z => nomatch z))
  loc := a.loc
  out := a.out
/-- .. with the marks of names free -/
structure KpO (H : Hp) (tg : TF) (H' : Hp) (tg' : TF) : Prop where
  kp : Kp H tg H' tg'
  out : ∀ a, tg' a = some .outer → tg a = some .outer
theorem KpO.s {H H1 : Hp} {tg tg1 : TF} (a : KpO H tg H1 tg1) : ExtS H tg H1 tg1 where
  keep := fun x o h t => a.kp.keep x o h (by rcases t with t | t <;> (rw [t]; exact fun _ z => nomatch z))
  loc := a.kp.loc
  out := a.out
theorem Ext.ko {H H1 : Hp} {tg tg1 : TF} (a : Ext H tg H1 tg1) : KpO H tg H1 tg1 := ⟨a.kp, a.out⟩
theorem KpO.trans {H H1 H2 : Hp} {tg tg1 tg2 : TF} (a : KpO H tg H1 tg1) (b : KpO H1 tg1 H2 tg2) : KpO H tg H2 tg2 := ⟨a.kp.trans b.kp, fun x h => a.out x (b.out x h)⟩
/-- a statement's reading -/
def tmS (K : PySem.W.Frag) (m : Rho → Sto → RS) : TS := fun E σ H => ∃ tg ρ st fl ρ' st', StR K H tg st ρ σ ∧ m ρ st = .ok (fl, ρ') st' ∧ match fl with
  | .nx => ∀ tg' σ' H', ExtS H tg H' tg' → StR K H' tg' st' ρ' σ' → E.nx σ' H'
  | .bk => ∀ tg' σ' H', ExtS H tg H' tg' → StR K H' tg' st' ρ' σ' → E.bk σ' H'
  | .ct => ∀ tg' σ' H', ExtS H tg H' tg' → StR K H' tg' st' ρ' σ' → E.ct σ' H'
  | .rt d b => ∀ tg' v H', ExtS H tg H' tg' → Wf K H' tg' st' → RX K H' tg' v (d, b) → E.rt v H'
/-- an answer's end -/
def EndOk (K : PySem.W.Frag) (E : Ends) (H : Hp) (tg : TF) (fl : Fl) (ρ' : Rho) (st' : Sto) : Prop := match fl with
  | .nx => ∀ tg' σ' H', ExtS H tg H' tg' → StR K H' tg' st' ρ' σ' → E.nx σ' H'
  | .bk => ∀ tg' σ' H', ExtS H tg H' tg' → StR K H' tg' st' ρ' σ' → E.bk σ' H'
  | .ct => ∀ tg' σ' H', ExtS H tg H' tg' → StR K H' tg' st' ρ' σ' → E.ct σ' H'
  | .rt d b => ∀ tg' v H', ExtS H tg H' tg' → Wf K H' tg' st' → RX K H' tg' v (d, b) → E.rt v H'
theorem EndOk.ext {K : PySem.W.Frag} {E : Ends} {H H1 : Hp} {tg tg1 : TF} {fl : Fl} {ρ' : Rho} {st' : Sto} (h : EndOk K E H tg fl ρ' st') (e : ExtS H tg H1 tg1) : EndOk K E H1 tg1 fl ρ' st' := by
  cases fl with
  | nx => exact fun tg' σ' H' e' s => h tg' σ' H' (e.trans e') s
  | bk => exact fun tg' σ' H' e' s => h tg' σ' H' (e.trans e') s
  | ct => exact fun tg' σ' H' e' s => h tg' σ' H' (e.trans e') s
  | rt d b => exact fun tg' v H' e' w r => h tg' v H' (e.trans e') w r
structure GoodS (X : Cx) (c : Cc) (F : Nat → List D → Sto → Res (D × Bool)) (Γ : Nat → D) : Prop where
  g : Good X c F Γ
  sc : X.env.scope = c.sc
  kd : c.sc.kind = .function
  pa : PassesOwn (model X.prog X.w) X.A X.env X.xe
structure SndS (F : Nat → List D → Sto → Res (D × Bool)) (Γ : Nat → D) (s : Stm) : Prop where
  blk : ∀ X c ss, GoodS X c F Γ → chkB s c ss = true → PSs X ss (tmS X.K (evS F Γ s))
  one : ∀ X c s0, GoodS X c F Γ → chkS s c s0 = true → PS X s0 (tmS X.K (evS F Γ s))
section
variable {X : Cx} {c : Cc} {F : Nat → List D → Sto → Res (D × Bool)} {Γ : Nat → D}
theorem ps_len {s : Stmt} {t : TS} (h : PS X s t) : PS X s (fun E σ H => σ.length = X.N.length → t E σ H) := ⟨fun pins s σ H E I q => h.run pins s σ H E I (q I.len)⟩
theorem blockKind_of (G : GoodS X c F Γ) : X.env.blockKind = .function := by
  unfold Env.blockKind
  rw [G.sc, G.kd]
  rfl
theorem sw_of (G : GoodS X c F Γ) {v : Expr} {x : Str} {px : Pos} {l : Nat} (h : notOther v = true) : swapsWith v (some (.Name x px)) l X.env = pure (swB c.sc x px v) := by
  cases v with
  | ListComp e gs s vp =>
    have hb := blockKind_of G
    have hk : (X.env.kindOf x == some NameKind.local) = isLocal c.sc x := by
      unfold Env.kindOf isLocal
      rw [G.sc]
      cases c.sc.names.lookup x with
      | none => rfl
      | some k => cases k <;> rfl
    unfold swapsWith
    simp only [hb, hk, Expr.pos, swB]
    rfl
  | SetComp _ _ _ _ => cases h
  | DictComp _ _ _ _ _ => cases h
  | _ => rfl
theorem swT_of {v : Expr} {ts : List Expr} {k : Nat} {p : Pos} {l : Nat} : swapsWithSole [.Tuple ts k p] v l X.env = pure false := by
  cases v <;> rfl
theorem swSub_of {v a b : Expr} {p : Pos} {l : Nat} : swapsWithSole [.Subscript a b p] v l X.env = pure false := by
  cases v <;> rfl
theorem swN_of {v : Expr} {l : Nat} (h : isComp v = false) : swapsWith v none l X.env = pure false := by
  cases v <;> first | rfl | cases h
theorem stSub_of {v a b : Expr} {p : Pos} : swappedStores [.Subscript a b p] v X.env = pure none := by
  cases v <;> rfl
theorem stT_of {v : Expr} {ts : List Expr} {k : Nat} {p : Pos} (h : notTuple v = true) : swappedStores [.Tuple ts k p] v X.env = pure none := by
  cases v <;> first | rfl | cases h
theorem loc_eq (G : GoodS X c F Γ) (id : Str) : (X.env.kindOf id == some NameKind.local) = isLocal c.sc id := by
  unfold Env.kindOf isLocal
  rw [G.sc]
  cases c.sc.names.lookup id with
  | none => rfl
  | some k => cases k <;> rfl
theorem fmap_eq {α β : Type} {f g : α → Option β} {l : List α} (h : ∀ x, f x = g x) : l.filterMap f = l.filterMap g := by
  have e : f = g := funext h
  rw [e]
theorem stP_of (G : GoodS X c F Γ) {ts vs : List Expr} {k k2 : Nat} {p p2 : Pos} (hn : vs.all notStar = true) (h : swP c.sc ts vs ≠ 2) :
    swappedStores [.Tuple ts k p] (.Tuple vs k2 p2) X.env = pure (if swP c.sc ts vs = 1 then some (swNames c.sc ts) else none) := by
  have hb := blockKind_of G
  have anyS : ∀ {f : Expr → Bool}, (∀ x, notStar x = true → f x = false) → ∀ {vs : List Expr}, vs.all notStar = true → vs.any f = false := by
    intro f hf vs
    induction vs with
    | nil => intro _; rfl
    | cons v vs ih =>
      intro hn
      rw [List.all_cons, Bool.and_eq_true] at hn
      rw [List.any_cons, hf v hn.1, ih hn.2]
      rfl
  unfold swappedStores
  simp only [hb]
  rw [anyS (fun x hx => by cases x <;> first | rfl | cases hx) hn]
  have hnm : ∀ {f : Expr → Option Str}, (∀ x, f x = (match x with | .Name id pos => if isLocal c.sc id && pos.line == (ts.head?.map (·.pos.line)).getD 0 then some id else none | _ => none)) → ts.filterMap f = swNames c.sc ts := fun hf => fmap_eq hf
  rw [hnm (fun x => by cases x <;> first | rfl | (simp only [loc_eq G]))]
  unfold swP at h ⊢
  have hb2 : (ScopeKind.function != ScopeKind.function) = false := by decide
  rw [hb2, Bool.or_false]
  by_cases h1 : (!(ts.length == 2 || ts.length == 3) || vs.length != ts.length) = true
  · rw [if_pos h1, if_pos h1]
    rfl
  · rw [if_neg h1] at h ⊢
    rw [if_neg h1, if_neg Bool.false_ne_true]
    by_cases h2 : ((swNames c.sc ts).length != ts.length || (swNames c.sc ts).eraseDups.length != (swNames c.sc ts).length) = true
    · rw [if_pos h2, if_pos h2]
      rfl
    · rw [if_neg h2] at h ⊢
      rw [if_neg h2]
      by_cases h3 : vs.all (foldedForSure 8) = true
      · rw [if_pos h3, if_pos h3]
        rfl
      · rw [if_neg h3] at h ⊢
        rw [if_neg h3]
        by_cases h4 : vs.all (constantsAlone 8) = true
        · rw [if_pos h4] at h; exact absurd rfl h
        · rw [if_neg h4, if_neg h4]
          rfl
end
end Ev
set_option Elab.async false
set_option linter.all false
set_option maxRecDepth 100000
set_option maxHeartbeats 1000000
/-! Statements: names bound, objects changed. -/
namespace Ev
open PySem PySem.Spec PyProof.Rows L2
section
variable {K : PySem.W.Frag} {H H1 : Hp} {tg tg1 : TF} {st : Sto} {ρ : Rho} {σ : L2.St}
theorem RS'.kp (h : RS' K H tg ρ σ) (e : Kp H tg H1 tg1) : RS' K H1 tg1 ρ σ := fun i => (h i).kp e
theorem StR.nextK {st' : Sto} (s : StR K H tg st ρ σ) (e : Kp H tg H1 tg1) (w : Wf K H1 tg1 st') (n : NoTmp tg1) : StR K H1 tg1 st' ρ σ := ⟨w, n, s.sl.kp e⟩
theorem StR.bind {i : Nat} {v : V} {sl : Sl} (s : StR K H tg st ρ σ) (hi : i < σ.length) (q : RSl K H tg i (some (some v)) sl) : StR K H tg st (put ρ i sl) (σ.set i (some v)) :=
  ⟨s.wf, s.nt, fun j => by
    rw [get_put, set_at hi]
    by_cases e : j = i
    · rw [if_pos e, if_pos e, e]; exact q
    · rw [if_neg e, if_neg e]; exact s.sl j⟩
/-- a new object gets its owner -/
theorem slot_of {i : Nat} {b : Bool} {v : V} {r : D × Bool} {sl : Sl} (nt : NoTmp tg) (e : Ext H tg H1 tg1) (w : Wf K H1 tg1 st) (h : slOf b r = some sl) (rx : RX K H1 tg1 v r) :
    ∃ tg2, KpO H tg H1 tg2 ∧ Wf K H1 tg2 st ∧ NoTmp tg2 ∧ RSl K H1 tg2 i (some (some v)) sl := by
  cases b with
  | false =>
    obtain ⟨tg2, e2, w2, n2, r2⟩ := fz_of nt e w rx
    cases h
    exact ⟨tg2, e2.ko, w2, n2, v, rfl, r2⟩
  | true =>
    obtain ⟨d, fr⟩ := r
    cases fr with
    | false => cases h
    | true =>
      obtain ⟨a, o, rfl, t, u, ro, ed⟩ := rx
      have ed : d = o.toD := ed
      subst ed
      have hsl : sl = .own o := by
        have h : (ownOf o.toD).map Sl.own = some sl := h
        cases o <;> (cases h; rfl)
      subst hsl
      have ht : tg a ≠ some .tmp := nt a
      have kp : KpO H tg H1 (mark tg1 a (some (.slot i))) := by
        refine ⟨⟨fun b x h z => ?_, fun b l h => ?_⟩, fun b h => ?_⟩
        · obtain ⟨h1, h2⟩ := e.keep b x h z
          have ne : b ≠ a := fun q => by subst q; rw [t] at h2; exact ht h2.symm
          exact ⟨h1, by rw [mark_ne ne]; exact h2⟩
        · obtain ⟨h1, h2⟩ := e.loc b l h
          have ne : b ≠ a := fun q => by subst q; rw [t] at h1; cases h1
          exact ⟨by rw [mark_ne ne]; exact h1, h2⟩
        · by_cases q : b = a
          · subst q; rw [mark_same] at h; cases h
          · rw [mark_ne q] at h; exact e.out b h
      have le : Le H1 tg1 H1 (mark tg1 a (some (.slot i))) := by
        refine ⟨fun b x h z => ⟨h, ?_⟩, fun b l h => ?_⟩
        · have q : b ≠ a := fun q => by subst q; rw [t] at z; cases z
          rw [mark_ne q]; exact z
        · have q : b ≠ a := fun q => by subst q; rw [t] at h; cases h
          rw [mark_ne q]; exact h
      refine ⟨_, kp, ⟨fun b h => ?_, fun b b' l h1 h2 => ?_, fun b l h => ?_, fun l ob h => ?_⟩, fun b h => ?_, a, rfl, mark_same, ro.mono le rfl⟩
      · by_cases q : b = a
        · subst q; exact absurd h ro.some
        · rw [mark_ne q]; exact w.dom b h
      · have q : b ≠ a := fun q => by subst q; rw [mark_same] at h1; cases h1
        have q' : b' ≠ a := fun q => by subst q; rw [mark_same] at h2; cases h2
        rw [mark_ne q] at h1
        rw [mark_ne q'] at h2
        exact w.inj b b' l h1 h2
      · have q : b ≠ a := fun q => by subst q; rw [mark_same] at h; cases h
        rw [mark_ne q] at h
        exact w.bnd b l h
      · obtain ⟨b, h1, h2⟩ := w.sto l ob h
        have q : b ≠ a := fun q => by subst q; rw [t] at h1; cases h1
        exact ⟨b, by rw [mark_ne q]; exact h1, h2.mono le rfl⟩
      · by_cases q : b = a
        · subst q; rw [mark_same] at h; cases h
        · rw [mark_ne q] at h; exact q (u b h)
/-- an object's marks change: own to another mark -/
theorem remark {i : Nat} {a : Addr} {t : Option Tag} (w : Wf K H tg st) (ta : tg a = some (.slot i)) (ht : ∀ l, t ≠ some (.loc l)) (ho : t ≠ some .outer) : Le H tg H (mark tg a t) ∧ Wf K H (mark tg a t) st ∧ ExtS H tg H (mark tg a t) := by
  have le : Le H tg H (mark tg a t) := by
    refine ⟨fun b x h z => ⟨h, ?_⟩, fun b l h => ?_⟩
    · have q : b ≠ a := fun q => by subst q; rw [ta] at z; cases z
      rw [mark_ne q]; exact z
    · have q : b ≠ a := fun q => by subst q; rw [ta] at h; cases h
      rw [mark_ne q]; exact h
  refine ⟨le, ⟨fun b h => ?_, fun b b' l h1 h2 => ?_, fun b l h => ?_, fun l ob h => ?_⟩, ⟨fun b x h z => ⟨h, ?_⟩, fun b l h => ?_, fun b h => ?_⟩⟩
  · by_cases q : b = a
    · subst q; rw [w.dom b h] at ta; cases ta
    · rw [mark_ne q]; exact w.dom b h
  · have q : b ≠ a := fun q => by subst q; rw [mark_same] at h1; exact ht l h1
    have q' : b' ≠ a := fun q => by subst q; rw [mark_same] at h2; exact ht l h2
    rw [mark_ne q] at h1
    rw [mark_ne q'] at h2
    exact w.inj b b' l h1 h2
  · have q : b ≠ a := fun q => by subst q; rw [mark_same] at h; exact ht l h
    rw [mark_ne q] at h
    exact w.bnd b l h
  · obtain ⟨b, h1, h2⟩ := w.sto l ob h
    have q : b ≠ a := fun q => by subst q; rw [ta] at h1; cases h1
    exact ⟨b, by rw [mark_ne q]; exact h1, h2.mono le rfl⟩
  · have q : b ≠ a := fun q => by subst q; rcases z with z | z <;> (rw [ta] at z; cases z)
    rw [mark_ne q]
  · have q : b ≠ a := fun q => by subst q; rw [ta] at h; cases h
    exact ⟨by rw [mark_ne q]; exact h, fun z => by rw [w.dom b z] at h; cases h⟩
  · have q : b ≠ a := fun q => by subst q; rw [mark_same] at h; exact ho h
    rw [mark_ne q] at h
    exact h
theorem own_val {a : Addr} {o : Ob} (ro : RO K H tg a o) (t : tg a = none) : RV K H tg (.ref a) o.toD := by
  cases o with
  | lst ds => obtain ⟨xs, h, r⟩ := ro; exact .lst h t r
  | dct k kvs =>
    cases k with
    | false => obtain ⟨xs, h, r⟩ := ro; exact .dK (.inl h) t r
    | true => obtain ⟨xs, h, r⟩ := ro; exact .dT h t r
theorem rsl_mark {a : Addr} {t : Option Tag} {j : Nat} {x : Option (Option V)} {sl : Sl} (le : Le H tg H (mark tg a t)) (q : RSl K H tg j x sl) (ne : ∀ o, sl = .own o → x ≠ some (some (.ref a))) : RSl K H (mark tg a t) j x sl := by
  cases sl with
  | un => trivial
  | v d => obtain ⟨v, e1, r⟩ := q; exact ⟨v, e1, r.mono le⟩
  | own o =>
    obtain ⟨b, e1, tb, r⟩ := q
    have hb : b ≠ a := fun z => ne o rfl (by rw [e1, z])
    exact ⟨b, e1, by rw [mark_ne hb]; exact tb, r.mono le rfl⟩
/-- ghosts: an own object becomes a value, or one of the store's -/
theorem ghost_R {F : Nat → List D → Sto → Res (D × Bool)} {Γ : Nat → D} {g : Stm} {fl : Fl} {ρ' : Rho} {st' : Sto} (hg : ghost g = true) (s : StR K H tg st ρ σ) (h : evS F Γ g ρ st = .ok (fl, ρ') st') : fl = .nx ∧ ∃ tg2, ExtS H tg H tg2 ∧ StR K H tg2 st' ρ' σ := by
  cases g with
  | fz i =>
    have h : (match get ρ i with | .own o => Res.ok (Fl.nx, put ρ i (.v o.toD)) st | _ => .bad) = .ok (fl, ρ') st' := h
    cases hs : get ρ i with
    | own o =>
      rw [hs] at h
      cases h
      have q := s.sl i
      rw [hs] at q
      obtain ⟨a, e1, ta, ro⟩ := q
      obtain ⟨le, w, ex⟩ := remark (t := none) s.wf ta (fun _ z => nomatch z) (fun z => nomatch z)
      refine ⟨rfl, _, ex, w, fun b hb => ?_, fun j => ?_⟩
      · by_cases q : b = a
        · subst q; rw [mark_same] at hb; cases hb
        · rw [mark_ne q] at hb; exact s.nt b hb
      · rw [get_put]
        by_cases e : j = i
        · rw [if_pos e, e]
          exact ⟨_, e1, own_val (ro.mono le rfl) mark_same⟩
        · rw [if_neg e]
          refine rsl_mark le (s.sl j) fun o' ho hx => ?_
          have q := s.sl j
          rw [ho] at q
          obtain ⟨b, e2, tb, _⟩ := q
          rw [hx] at e2
          cases e2
          rw [ta] at tb
          cases tb
          exact e rfl
    | un => rw [hs] at h; cases h
    | v d => rw [hs] at h; cases h
  | shr i =>
    have h : (match get ρ i with | .own o => Res.ok (Fl.nx, put ρ i (.v (.ref st.length))) (st ++ [o]) | _ => .bad) = .ok (fl, ρ') st' := h
    cases hs : get ρ i with
    | own o =>
      rw [hs] at h
      cases h
      have q := s.sl i
      rw [hs] at q
      obtain ⟨a, e1, ta, ro⟩ := q
      have le : Le H tg H (mark tg a (some (.loc st.length))) := by
        refine ⟨fun b x h z => ⟨h, ?_⟩, fun b l h => ?_⟩
        · have q : b ≠ a := fun q => by subst q; rw [ta] at z; cases z
          rw [mark_ne q]; exact z
        · have q : b ≠ a := fun q => by subst q; rw [ta] at h; cases h
          rw [mark_ne q]; exact h
      refine ⟨rfl, mark tg a (some (.loc st.length)), ⟨fun b x h z => ⟨h, ?_⟩, fun b l h => ?_, fun b h => ?_⟩, ⟨fun b h => ?_, fun b b' l h1 h2 => ?_, fun b l h => ?_, fun l ob h => ?_⟩, fun b hb => ?_, fun j => ?_⟩
      · have q : b ≠ a := fun q => by subst q; rcases z with z | z <;> (rw [ta] at z; cases z)
        rw [mark_ne q]
      · have q : b ≠ a := fun q => by subst q; rw [ta] at h; cases h
        exact ⟨by rw [mark_ne q]; exact h, fun z => by rw [s.wf.dom b z] at h; cases h⟩
      · have q : b ≠ a := fun q => by subst q; rw [mark_same] at h; cases h
        rw [mark_ne q] at h; exact h
      · by_cases q : b = a
        · subst q; exact absurd h ro.some
        · rw [mark_ne q]; exact s.wf.dom b h
      · by_cases q : b = a
        · by_cases q' : b' = a
          · rw [q, q']
          · subst q
            rw [mark_same] at h1
            cases h1
            rw [mark_ne q'] at h2
            exact absurd (s.wf.bnd b' _ h2) (Nat.lt_irrefl _)
        · rw [mark_ne q] at h1
          by_cases q' : b' = a
          · subst q'
            rw [mark_same] at h2
            cases h2
            exact absurd (s.wf.bnd b _ h1) (Nat.lt_irrefl _)
          · rw [mark_ne q'] at h2
            exact s.wf.inj b b' l h1 h2
      · rw [List.length_append]
        by_cases q : b = a
        · subst q; rw [mark_same] at h; cases h; exact Nat.lt_succ_self _
        · rw [mark_ne q] at h; exact Nat.lt_succ_of_lt (s.wf.bnd b l h)
      · by_cases hl : l < st.length
        · rw [List.getElem?_append_left hl] at h
          obtain ⟨b, h1, h2⟩ := s.wf.sto l ob h
          have q : b ≠ a := fun q => by subst q; rw [ta] at h1; cases h1
          exact ⟨b, by rw [mark_ne q]; exact h1, h2.mono le rfl⟩
        · rw [List.getElem?_append_right (by omega)] at h
          have e : l = st.length := by
            by_cases e : l - st.length = 0
            · omega
            · have : ([o] : List Ob)[l - st.length]? = none := List.getElem?_eq_none (by simp; omega)
              rw [this] at h; cases h
          subst e
          rw [Nat.sub_self] at h
          cases h
          exact ⟨a, mark_same, ro.mono le rfl⟩
      · by_cases q : b = a
        · subst q; rw [mark_same] at hb; cases hb
        · rw [mark_ne q] at hb; exact s.nt b hb
      · rw [get_put]
        by_cases e : j = i
        · rw [if_pos e, e]
          exact ⟨_, e1, .ref mark_same⟩
        · rw [if_neg e]
          refine rsl_mark le (s.sl j) fun o' ho hx => ?_
          have q := s.sl j
          rw [ho] at q
          obtain ⟨b, e2, tb, _⟩ := q
          rw [hx] at e2
          cases e2
          rw [ta] at tb
          cases tb
          exact e rfl
    | un => rw [hs] at h; cases h
    | v d => rw [hs] at h; cases h
  | _ => cases hg
/-- the object that a name holds or means -/
theorem ob_of {i : Nat} {o : Ob} (s : StR K H tg st ρ σ) (h : obAt ρ st i = some o) : ∃ a, σ[i]? = some (some (.ref a)) ∧ RO K H tg a o ∧
    ∀ (o' : Ob) (ho : HO) (fl : Fl) (ρ' : Rho) (st' : Sto), obPut ρ st i o' = .ok (fl, ρ') st' → RO K (upd H a ho) tg a o' → fl = .nx ∧ StR K (upd H a ho) tg st' ρ' σ ∧ ExtS H tg (upd H a ho) tg := by
  unfold obAt at h
  cases hs : get ρ i with
  | un => rw [hs] at h; cases h
  | own ob =>
    rw [hs] at h
    cases h
    have q := s.sl i
    rw [hs] at q
    obtain ⟨a, e1, ta, ro⟩ := q
    refine ⟨a, e1, ro, fun o' ho fl ρ' st' hp ro' => ?_⟩
    unfold obPut at hp
    rw [hs] at hp
    cases hp
    have le : Le H tg (upd H a ho) tg := ⟨fun b x h z => ⟨by
      have q : b ≠ a := fun q => by subst q; rw [ta] at z; cases z
      rw [upd_ne q]; exact h, z⟩, fun _ _ h => h⟩
    refine ⟨rfl, ⟨⟨fun b h => ?_, s.wf.inj, s.wf.bnd, fun l ob h => ?_⟩, s.nt, fun j => ?_⟩, ⟨fun b x h z => ⟨?_, rfl⟩, fun b l h => ⟨h, ?_⟩, fun _ h => h⟩⟩
    · by_cases q : b = a
      · subst q; rw [upd_same] at h; cases h
      · rw [upd_ne q] at h; exact s.wf.dom b h
    · obtain ⟨b, h1, h2⟩ := s.wf.sto l ob h
      have q : b ≠ a := fun q => by subst q; rw [ta] at h1; cases h1
      exact ⟨b, h1, h2.mono le (upd_ne q)⟩
    · rw [get_put]
      by_cases e : j = i
      · rw [if_pos e, e]
        exact ⟨a, e1, ta, ro'⟩
      · rw [if_neg e]
        have q := s.sl j
        cases hj : get ρ j with
        | un => trivial
        | v d => rw [hj] at q; obtain ⟨v, e2, r⟩ := q; exact ⟨v, e2, r.mono le⟩
        | own ob2 =>
          rw [hj] at q
          obtain ⟨b, e2, tb, r⟩ := q
          have hb : b ≠ a := fun z => by subst z; rw [ta] at tb; cases tb; exact e rfl
          exact ⟨b, e2, tb, r.mono le (upd_ne hb)⟩
    · have q : b ≠ a := fun q => by subst q; rcases z with z | z <;> (rw [ta] at z; cases z)
      rw [upd_ne q]; exact h
    · have q : b ≠ a := fun q => by subst q; rw [ta] at h; cases h
      rw [upd_ne q]
      exact fun z => by rw [s.wf.dom b z] at h; cases h
  | v d =>
    rw [hs] at h
    cases d with
    | ref l =>
      have h : st[l]? = some o := h
      have q := s.sl i
      rw [hs] at q
      obtain ⟨v, e1, r⟩ := q
      cases r with
      | ref ta =>
        rename_i a
        obtain ⟨b, tb, ro⟩ := s.wf.sto l o h
        have hb : b = a := s.wf.inj b a l tb ta
        subst hb
        refine ⟨b, e1, ro, fun o' ho fl ρ' st' hp ro' => ?_⟩
        unfold obPut at hp
        rw [hs] at hp
        cases hp
        have le : Le H tg (upd H b ho) tg := ⟨fun b' x h z => ⟨by
          have q : b' ≠ b := fun q => by subst q; rw [ta] at z; cases z
          rw [upd_ne q]; exact h, z⟩, fun _ _ h => h⟩
        refine ⟨rfl, ⟨⟨fun b' h => ?_, s.wf.inj, fun b' l' h => by rw [List.length_set]; exact s.wf.bnd b' l' h, fun l' ob h' => ?_⟩, s.nt, fun j => ?_⟩, ⟨fun b' x h z => ⟨?_, rfl⟩, fun b' l h => ⟨h, ?_⟩, fun _ h => h⟩⟩
        · by_cases q : b' = b
          · subst q; rw [upd_same] at h; cases h
          · rw [upd_ne q] at h; exact s.wf.dom b' h
        · by_cases hl : l' = l
          · subst hl
            rw [List.getElem?_set_self (List.getElem?_eq_some_iff.mp h).1] at h'
            cases h'
            exact ⟨b, ta, ro'⟩
          · rw [List.getElem?_set_ne (fun z => hl z.symm)] at h'
            obtain ⟨b', h1, h2⟩ := s.wf.sto l' ob h'
            have q : b' ≠ b := fun q => by subst q; rw [ta] at h1; cases h1; exact hl rfl
            exact ⟨b', h1, h2.mono le (upd_ne q)⟩
        · have q := s.sl j
          cases hj : get ρ j with
          | un => trivial
          | v d => rw [hj] at q; obtain ⟨v, e2, r⟩ := q; exact ⟨v, e2, r.mono le⟩
          | own ob2 =>
            rw [hj] at q
            obtain ⟨b', e2, tb', r⟩ := q
            have hb : b' ≠ b := fun z => by subst z; rw [ta] at tb'; cases tb'
            exact ⟨b', e2, tb', r.mono le (upd_ne hb)⟩
        · have q : b' ≠ b := fun q => by subst q; rcases z with z | z <;> (rw [ta] at z; cases z)
          rw [upd_ne q]; exact h
        · by_cases q : b' = b
          · subst q; rw [upd_same]; exact fun z => nomatch z
          · rw [upd_ne q]
            exact fun z => by rw [s.wf.dom b' z] at h; cases h
    | _ => cases h
end
end Ev
set_option Elab.async false
set_option linter.all false
set_option maxRecDepth 100000
set_option maxHeartbeats 1000000
/-! Statements: the nodes. -/
namespace Ev
open PySem PySem.Spec PyProof.Rows L2
section
variable {F : Nat → List D → Sto → Res (D × Bool)} {Γ : Nat → D} {X : Cx} {c : Cc}
theorem chkB_one {s : Stm} (h1 : s ≠ .skip) (h2 : ∀ a b, s ≠ .seq a b) (c : Cc) (ss : List Stmt) : chkB s c ss = false := by
  cases s <;> first | exact absurd rfl h1 | exact absurd rfl (h2 _ _) | (unfold chkB; rfl)
theorem SndS.one' {s : Stm} (h1 : s ≠ .skip) (h2 : ∀ a b, s ≠ .seq a b) (o : ∀ X c s0, GoodS X c F Γ → chkS s c s0 = true → PS X s0 (tmS X.K (evS F Γ s))) : SndS F Γ s :=
  ⟨fun X c ss G h => (by rw [chkB_one h1 h2] at h; cases h), o⟩
theorem in_len {i : Nat} {x : Str} (G : Good X c F Γ) (h : chkSt c i x = true) {σ : L2.St} (hl : σ.length = X.N.length) : i < σ.length := by
  rw [hl, G.nm]
  exact (List.getElem?_eq_some_iff.mp (chkSt_of h).1).1
/-! ### name = value -/
theorem isLocal_of {sc : Scope} {x : Str} (h : isLocal sc x = true) : sc.names.lookup x = some .local := by
  unfold isLocal at h
  split at h
  · assumption
  · cases h
theorem lc_of {e : Ex} (h : isLC e = true) : ∃ elt tg it tests, e = .lc elt tg it tests := by
  cases e <;> first | exact ⟨_, _, _, _, rfl⟩ | cases h
theorem ps_name (G : GoodS X c F Γ) {e : Ex} {i : Nat} {x : Str} {px pos : Pos} {v : Expr} (h1 : chkSt c i x = true) (h2 : chk e c false v = true) (h3 : notOther v = true) (h4 : (!swB c.sc x px v || isLC e) = true) :
    PS X (.Assign [.Name x px] v pos) (fun E σ H => tmX X.K (evX F Γ e) σ H fun v H1 => i < σ.length → E.nx (σ.set i (some v)) H1) := by
  obtain ⟨h5, h6⟩ := chkSt_of h1
  obtain ⟨h7, h8⟩ := G.g.loc x h6
  have hN : X.N.Nodup := by rw [G.g.nm]; exact G.g.nd
  have hi : X.N[i]? = some x := by rw [G.g.nm]; exact h5
  cases hb : swB c.sc x px v with
  | false =>
    refine (ps_len (ps_set hN hi h7 ((snd e).x X c v G.g h2) (by rw [sw_of G h3, hb]) h8)).mono fun E σ H w hl => ?_
    obtain ⟨tg, ρ, st, r, st', s, he, k⟩ := w
    exact ⟨tg, ρ, st, r, st', s, he, fun tg' v H' e' w' r' => k tg' v H' e' w' r' (in_len G.g h1 hl)⟩
  | true =>
    rw [hb] at h4
    obtain ⟨elt, tg, it, tests, rfl⟩ := lc_of h4
    cases v with
    | ListComp e gs scope vp =>
      have hloc : isLocal c.sc x = true := by
        unfold swB at hb
        rw [Bool.and_eq_true, Bool.and_eq_true] at hb
        exact hb.1.1
      have hsw := sw_of G (v := .ListComp e gs scope vp) (x := x) (px := px) (l := pos.line) rfl
      rw [hb] at hsw
      unfold chk at h2
      split at h2
      · rename_i heq
        cases heq
        simp only [Bool.and_eq_true, beq_iff_eq] at h2
        obtain ⟨⟨⟨⟨⟨rfl, g1⟩, g2⟩, g3⟩, g4⟩, g5⟩ := h2
        have L := lc_ok (F := F) (Γ := Γ) (snd elt) (snd it) (snd tests) G.g g1 g2 g3 g4 g5
        refine (ps_len (ps_setLc G.g.calm hN hi (by rw [G.sc]; exact isLocal_of hloc) hsw L.hi L.ok L.hg L.ht L.he L.hs)).mono fun E σ H w hl => ?_
        show tLc _ _ _ _ _ σ H fun v H1 => gName i v σ H1 E.nx
        rw [tgOwn_names]
        refine lc_R ?_ (by rw [hl, G.g.nm])
        obtain ⟨tg, ρ, st, r, st', s, he, k⟩ := w
        exact ⟨tg, ρ, st, r, st', s, he, fun tg' v H' e' w' r' => k tg' v H' e' w' r' (in_len G.g h1 hl)⟩
      · cases h2
    | _ => cases hb
theorem asg_R {K : PySem.W.Frag} {b : Bool} {e : Ex} {i : Nat} {E : Ends} {σ : L2.St} {H : Hp}
    (h : tmS K (fun ρ st => (evX F Γ e ρ st).bind fun r st => (lift (slOf b r) st).bind fun s st => .ok (.nx, put ρ i s) st) E σ H) : tmX K (evX F Γ e) σ H fun v H1 => i < σ.length → E.nx (σ.set i (some v)) H1 := by
  obtain ⟨tg, ρ, st, fl, ρ', st', s, he, k⟩ := h
  obtain ⟨r, st1, h1, h2⟩ := bind_ok he
  obtain ⟨sl, st2, h3a, h4⟩ := bind_ok h2
  obtain ⟨h3, rfl⟩ := lift_ok h3a
  cases h4
  refine ⟨tg, ρ, st, r, _, s, h1, fun tg1 v H1 e1 w1 r1 hi => ?_⟩
  obtain ⟨tg2, ko, w2, n2, q⟩ := slot_of (i := i) s.nt e1 w1 h3 r1
  exact k tg2 _ H1 ko.s ((s.nextK ko.kp w2 n2).bind hi q)
theorem asg_X {e : Ex} {i : Nat} {ρ : Rho} {st : Sto} {r : Fl × Rho} {st' : Sto} (h : evS F Γ (.asg i e) ρ st = .ok r st') : ((evX F Γ e ρ st).bind fun r st => (lift (slOf false r) st).bind fun s st => .ok (Fl.nx, put ρ i s) st) = .ok r st' := by
  obtain ⟨d, st1, h1, h2⟩ := bind_ok (show ((evE F Γ e ρ st).bind fun d st => .ok (.nx, put ρ i (.v d)) st) = .ok r st' from h)
  obtain ⟨fr, h3⟩ := evX_of h1
  rw [h3]
  exact h2
theorem snd_asg {i : Nat} {e : Ex} : SndS F Γ (.asg i e) := by
  refine SndS.one' (fun z => nomatch z) (fun _ _ z => nomatch z) fun X c s0 G h => ?_
  unfold chkS at h
  split at h
  · simp only [Bool.and_eq_true] at h
    obtain ⟨⟨⟨h1, h2⟩, h3⟩, h4⟩ := h
    refine (ps_name G h1 h2 h3 h4).mono fun E σ H ⟨tg, ρ, st, fl, ρ', st', s, he, k⟩ => ?_
    exact asg_R (b := false) ⟨tg, ρ, st, fl, ρ', st', s, asg_X he, k⟩
  · cases h
theorem snd_asgo {i : Nat} {e : Ex} : SndS F Γ (.asgo i e) := by
  refine SndS.one' (fun z => nomatch z) (fun _ _ z => nomatch z) fun X c s0 G h => ?_
  unfold chkS at h
  split at h
  · simp only [Bool.and_eq_true] at h
    obtain ⟨⟨⟨h1, h2⟩, h3⟩, h4⟩ := h
    exact (ps_name G h1 h2 h3 h4).mono fun E σ H w => asg_R (b := true) w
  · cases h
/-! ### names = a tuple -/
theorem snd_tasg {is : List Nat} {e : Ex} : SndS F Γ (.tasg is e) := by
  refine SndS.one' (fun z => nomatch z) (fun _ _ z => nomatch z) fun X c s0 G h => ?_
  unfold chkS at h
  split at h
  · simp only [Bool.and_eq_true] at h
    obtain ⟨⟨h1, h2⟩, h3⟩ := h
    refine (ps_len (ps_asg ((snd e).e G.g h2) (pg_tg G.g (tg := .many is) (by exact h1)) swT_of (stT_of h3))).mono fun E σ H ⟨tg, ρ, st, fl, ρ', st', s, he, k⟩ hl => ?_
    obtain ⟨d, st1, h4, h5⟩ := bind_ok (show ((evE F Γ e ρ st).bind fun d st => (lift (bindT (.many is) d ρ) st).bind fun ρ' st => .ok (Fl.nx, ρ') st) = .ok (fl, ρ') st' from he)
    obtain ⟨ρ2, st2, h6a, h7⟩ := bind_ok h5
    obtain ⟨h6, rfl⟩ := lift_ok h6a
    cases h7
    refine ⟨tg, ρ, st, d, _, s, h4, fun tg1 v H1 e1 w1 r1 hN => ?_⟩
    exact ⟨tg1, ρ, _, d, ρ', w1, r1.1, fun j hj => (s.sl.ext e1) j, r1.2, h6, fun σ' s' _ _ => k tg1 σ' H1 e1.s s'⟩
  · cases h
/-! ### several names at once -/
inductive RP (K : PySem.W.Frag) (H : Hp) (tg : TF) : List Nat → List V → List Sl → Prop where
  | nil : RP K H tg [] [] []
  | cons {i : Nat} {v : V} {sl : Sl} {is : List Nat} {vs : List V} {ss : List Sl} (h : RSl K H tg i (some (some v)) sl) (r : RP K H tg is vs ss) : RP K H tg (i :: is) (v :: vs) (sl :: ss)
def tmP (K : PySem.W.Frag) (is : List Nat) (m : Rho → Sto → Res (List Sl)) : TA := fun σ H Q => ∃ tg ρ st ss st', StR K H tg st ρ σ ∧ m ρ st = .ok ss st' ∧ ∀ tg' vs H', KpO H tg H' tg' → Wf K H' tg' st' → NoTmp tg' → RP K H' tg' is vs ss → Q vs H'
theorem pa_P (G : GoodS X c F Γ) : ∀ (es : Ex) (vs : List Expr) (is : List Nat) (os : List Bool), chks es c false vs = true → is.length = vs.length → PA X vs (tmP X.K is (evP F Γ es os)) ∧ vs.all notStar = true := by
  intro es
  induction es with
  | nil =>
    intro vs is os h hl
    cases vs with
    | nil =>
      cases is with
      | nil =>
        refine ⟨pa_nil.mono fun σ H Q ⟨tg, ρ, st, ss, st', s, he, k⟩ => ?_, rfl⟩
        cases os with
        | nil => cases he; exact k tg [] H (Ext.refl s.wf.dom).ko s.wf s.nt .nil
        | cons _ _ => cases he
      | cons _ _ => cases hl
    | cons _ _ => cases h
  | cons e es _ ih =>
    intro vs is os h hl
    cases vs with
    | nil => unfold chks at h; cases h
    | cons v vs =>
      cases is with
      | nil => cases hl
      | cons i is =>
        unfold chks at h
        simp only [Bool.and_eq_true] at h
        obtain ⟨⟨h1, h2⟩, h3⟩ := h
        cases os with
        | nil =>
          obtain ⟨p, q⟩ := ih vs is [] h3 (by simpa using hl)
          exact ⟨(pa_cons ((snd e).x X c v G.g h1) p (star_cons h2)).mono fun σ H Q ⟨tg, ρ, st, ss, st', s, he, k⟩ => (by cases he), by rw [List.all_cons, h2, q]; rfl⟩
        | cons b os =>
          obtain ⟨p, q⟩ := ih vs is os h3 (by simpa using hl)
          refine ⟨(pa_cons ((snd e).x X c v G.g h1) p (star_cons h2)).mono fun σ H Q ⟨tg, ρ, st, ss, st', s, he, k⟩ => ?_, by rw [List.all_cons, h2, q]; rfl⟩
          obtain ⟨r, st1, h4, h5⟩ := bind_ok (show ((evX F Γ e ρ st).bind fun r st => (lift (slOf b r) st).bind fun s st => (evP F Γ es os ρ st).bind fun ss st => .ok (s :: ss) st) = .ok ss st' from he)
          obtain ⟨sl, st2, h6a, h7⟩ := bind_ok h5
          obtain ⟨h6, rfl⟩ := lift_ok h6a
          obtain ⟨sr, st3, h8, h9⟩ := bind_ok h7
          cases h9
          refine ⟨tg, ρ, st, r, _, s, h4, fun tg1 x H1 e1 w1 r1 => ?_⟩
          obtain ⟨tg2, ko, w2, n2, q2⟩ := slot_of (i := i) s.nt e1 w1 h6 r1
          refine ⟨tg2, ρ, _, sr, _, s.nextK ko.kp w2 n2, h8, fun tg3 xs H3 ko3 w3 n3 r3 => ?_⟩
          exact k tg3 (x :: xs) H3 (ko.trans ko3) w3 n3 (.cons (q2.kp ko3.kp) r3)
  | _ => (intro vs is os h hl; unfold chks at h; cases h)
theorem RP.length {K : PySem.W.Frag} {H : Hp} {tg : TF} {is : List Nat} {vs : List V} {ss : List Sl} (h : RP K H tg is vs ss) : vs.length = is.length := by
  induction h with
  | nil => rfl
  | cons _ _ ih => rw [List.length_cons, List.length_cons, ih]
theorem RP.kp {K : PySem.W.Frag} {H H1 : Hp} {tg tg1 : TF} {is : List Nat} {vs : List V} {ss : List Sl} (h : RP K H tg is vs ss) (e : Kp H tg H1 tg1) : RP K H1 tg1 is vs ss := by
  induction h with
  | nil => exact .nil
  | cons h _ ih => exact .cons (h.kp e) ih
theorem gNames_R {K : PySem.W.Frag} {H : Hp} {tg : TF} {st : Sto} : ∀ {is : List Nat} {vs : List V} {ss : List Sl} {ρ ρ' : Rho} {σ : L2.St} {Q : L2.St → Hp → Prop}, RP K H tg is vs ss → putS ρ is ss = some ρ' → (∀ i ∈ is, i < σ.length) → StR K H tg st ρ σ →
    (∀ σ', StR K H tg st ρ' σ' → Q σ' H) → gNames is vs σ H Q := by
  intro is vs ss ρ ρ' σ Q h
  induction h generalizing ρ σ with
  | nil => intro e hl s k; cases e; exact ⟨rfl, k σ s⟩
  | cons h r ih =>
    intro e hl s k
    have hi := hl _ (List.mem_cons_self ..)
    exact ⟨_, _, rfl, ih e (fun j hj => by rw [List.length_set]; exact hl j (List.mem_cons_of_mem _ hj)) (s.bind hi h) k⟩
theorem nodup_of : ∀ {is : List Nat}, nodupB is = true → is.Nodup
  | [], _ => List.nodup_nil
  | i :: is, h => by
    unfold nodupB at h
    rw [Bool.and_eq_true] at h
    refine List.nodup_cons.mpr ⟨fun z => ?_, nodup_of h.2⟩
    have := h.1
    rw [List.contains_iff_mem.mpr z] at this
    cases this
theorem chkTs_len : ∀ {is : List Nat} {ts : List Expr}, chkTs c is ts = true → is.length = ts.length
  | [], [], _ => rfl
  | i :: is, t :: ts, h => by
    cases t with
    | Name x p =>
      unfold chkTs at h
      rw [Bool.and_eq_true] at h
      rw [List.length_cons, List.length_cons, chkTs_len h.2]
    | _ => cases h
  | [], _ :: _, h => by cases h
  | _ :: _, [], h => by cases h
theorem chkTs_get : ∀ {is : List Nat} {ts : List Expr}, chkTs c is ts = true → ∃ xs : List (Nat × Str × Pos), is = xs.map (·.1) ∧ ts = xs.map (fun p => .Name p.2.1 p.2.2) ∧ ∀ p ∈ xs, chkSt c p.1 p.2.1 = true
  | [], [], _ => ⟨[], rfl, rfl, fun _ z => by cases z⟩
  | i :: is, t :: ts, h => by
    cases t with
    | Name x p =>
      unfold chkTs at h
      rw [Bool.and_eq_true] at h
      obtain ⟨xs, h1, h2, h3⟩ := chkTs_get h.2
      exact ⟨(i, x, p) :: xs, by rw [h1] <;> rfl, by rw [h2] <;> rfl, fun q hq => by
        rcases List.mem_cons.mp hq with rfl | hq
        · exact h.1
        · exact h3 q hq⟩
    | _ => cases h
  | [], _ :: _, h => by cases h
  | _ :: _, [], h => by cases h
theorem swNames_loc {sc : Scope} {ts : List Expr} {x : Str} {p : Pos} (hm : .Name x p ∈ ts) (hl : (swNames sc ts).length = ts.length) : isLocal sc x = true := by
  unfold swNames at hl
  have key : ∀ (l : List Expr) (f : Expr → Option Str), (l.filterMap f).length = l.length → ∀ y ∈ l, f y ≠ none := by
    intro l f
    induction l with
    | nil => intro _ y hy; cases hy
    | cons a l ih =>
      intro h y hy
      rw [List.filterMap_cons] at h
      cases e : f a with
      | none =>
        rw [e] at h
        have := List.length_filterMap_le f l
        simp only [List.length_cons] at h
        omega
      | some b =>
        rw [e] at h
        rcases List.mem_cons.mp hy with rfl | hy
        · rw [e]; exact fun z => nomatch z
        · exact ih (by simpa using h) y hy
  have := key ts _ hl _ hm
  by_cases e : isLocal sc x = true
  · exact e
  · have e : isLocal sc x = false := by simpa using e
    simp only [e, Bool.false_and] at this
    exact absurd rfl this
theorem swP_one {sc : Scope} {ts vs : List Expr} (h : swP sc ts vs = 1) : (swNames sc ts).length = ts.length := by
  unfold swP at h
  split at h
  · cases h
  · split at h
    · cases h
    · rename_i _ h2
      rw [Bool.or_eq_true, not_or] at h2
      simpa using h2.1
theorem fm_full {α β : Type} (f : α → Option β) (g : α → β) : ∀ l : List α, (l.filterMap f).length = l.length → (∀ y ∈ l, ∀ b, f y = some b → g y = b) → l.filterMap f = l.map g
  | [], _, _ => rfl
  | a :: l, h, k => by
    rw [List.filterMap_cons] at h ⊢
    cases e : f a with
    | none =>
      rw [e] at h
      have := List.length_filterMap_le f l
      simp only [List.length_cons] at h
      omega
    | some b =>
      rw [e] at h
      simp only [List.length_cons, Nat.add_right_cancel_iff] at h
      simp only [List.map_cons]
      rw [k a (List.mem_cons_self ..) b e, fm_full f g l h fun y hy => k y (List.mem_cons_of_mem _ hy)]
def nameOf : Expr → Str
  | .Name x _ => x
  | _ => Str.empty
theorem swNames_all {sc : Scope} {ts : List Expr} (h : (swNames sc ts).length = ts.length) : swNames sc ts = ts.map nameOf := by
  refine fm_full _ _ ts h fun y hy b e => ?_
  cases y with
  | Name x p =>
    simp only at e
    split at e
    · cases e; rfl
    · cases e
  | _ => cases e
theorem pg_names (G : GoodS X c F Γ) {is : List Nat} {ts : List Expr} {k : Nat} {p : Pos} (h : chkTs c is ts = true) : PG X (.Tuple ts k p) (gTup X.K is.length (gNames is)) := by
  obtain ⟨h1, h2, h3, h4⟩ := pgs_st G.g h
  exact pg_tup G.g.calm h1 h2 h3
theorem evP_ss {es : Ex} {is : List Nat} {os : List Bool} {ρ : Rho} {st st' : Sto} {r : Fl × Rho} (h : evS F Γ (.pasg is os es) ρ st = .ok r st') : ∃ ss ρ', evP F Γ es os ρ st = .ok ss st' ∧ putS ρ is ss = some ρ' ∧ r = (.nx, ρ') := by
  obtain ⟨ss, st1, h1, h2⟩ := bind_ok (show ((evP F Γ es os ρ st).bind fun ss st => (lift (putS ρ is ss) st).bind fun ρ' st => .ok (Fl.nx, ρ') st) = .ok r st' from h)
  obtain ⟨ρ', st2, h3a, h4⟩ := bind_ok h2
  obtain ⟨h3, rfl⟩ := lift_ok h3a
  cases h4
  exact ⟨ss, ρ', h1, h3, rfl⟩
theorem sets_of : ∀ {is : List Nat} {vs : List V} {σ : L2.St} {H : Hp} {Q : L2.St → Hp → Prop}, gNames is vs σ H Q → Q ((is.zip vs).foldl (fun σ p => σ.set p.1 (some p.2)) σ) H
  | [], _, σ, H, Q, h => by obtain ⟨rfl, h⟩ := h; exact h
  | i :: is, _, σ, H, Q, h => by
    obtain ⟨v, r, rfl, h⟩ := h
    exact sets_of (is := is) h
theorem snd_pasg {is : List Nat} {os : List Bool} {es : Ex} : SndS F Γ (.pasg is os es) := by
  refine SndS.one' (fun z => nomatch z) (fun _ _ z => nomatch z) fun X c s0 G h => ?_
  unfold chkS at h
  split at h
  · simp only [Bool.and_eq_true, Bool.or_eq_true, beq_iff_eq, decide_eq_true_eq] at h
    obtain ⟨⟨⟨⟨⟨h1, h2⟩, h3⟩, h4⟩, h5⟩, h6⟩ := h
    rename_i ts kt pt vs kv pv pos
    have hlen := chkTs_len h1
    obtain ⟨pa, hn⟩ := pa_P G es vs is os h2 (by rw [hlen, h4])
    have hin : ∀ i ∈ is, i < X.N.length := by
      rw [G.g.nm]
      exact (pgs_st G.g h1).2.2.2
    by_cases hw : swP c.sc ts vs = 1
    · have hst := stP_of G (k := kt) (k2 := kv) (p := pt) (p2 := pv) hn (by rw [hw]; decide)
      rw [if_pos hw, swNames_all (swP_one hw)] at hst
      have hloc : ∀ x p, Expr.Name x p ∈ ts → X.env.scope.names.lookup x = some .local := fun x p hm => by
        rw [G.sc]
        exact isLocal_of (swNames_loc hm (swP_one hw))
      obtain ⟨xs, e1, e2, e3⟩ := chkTs_get h1
      have hN : X.N.Nodup := by rw [G.g.nm]; exact G.g.nd
      have nd := nodup_of h3
      have hl : ts.length = 2 ∨ ts.length = 3 := by
        rcases h6 with z | z
        · rw [hw] at z; cases z
        · exact z.2
      -- the end, both ways
      have fin : ∀ (E : Ends) (σ : L2.St) (H : Hp), tmS X.K (evS F Γ (.pasg is os es)) E σ H → σ.length = X.N.length → tmP X.K is (evP F Γ es os) σ H fun vs H1 => vs.length = is.length ∧ E.nx ((is.zip vs).foldl (fun σ p => σ.set p.1 (some p.2)) σ) H1 := by
        intro E σ H ⟨tg, ρ, st, fl, ρ', st', s, he, k⟩ hsl
        obtain ⟨ss, ρ2, g1, g2, g3⟩ := evP_ss he
        cases g3
        refine ⟨tg, ρ, st, ss, st', s, g1, fun tg1 us H1 ko w n rp => ⟨rp.length, ?_⟩⟩
        exact sets_of (gNames_R rp g2 (fun i hi => by rw [hsl]; exact hin i hi) (s.nextK ko.kp w n) fun σ' s' => k tg1 σ' H1 ko.s s')
      rcases hl with hl | hl
      · match xs, e1, e2, e3 with
        | [p, q], e1, e2, e3 =>
          have e1 : is = [p.1, q.1] := e1
          have e2 : ts = [.Name p.2.1 p.2.2, .Name q.2.1 q.2.2] := e2
          subst e1 e2
          match vs, pa, hst, h4 with
          | [a, b], pa, hst, _ =>
            refine (ps_len (ps_par G.g.calm hN (by rw [G.g.nm]; exact (chkSt_of (e3 p (by simp))).1) (by rw [G.g.nm]; exact (chkSt_of (e3 q (by simp))).1) (by simpa using nd) (hloc p.2.1 p.2.2 (by simp)) (hloc q.2.1 q.2.2 (by simp)) pa hst)).mono fun E σ H w hsl => ?_
            obtain ⟨tg, ρ, st, ss, st', s, g1, k⟩ := fin E σ H w hsl
            refine ⟨tg, ρ, st, ss, st', s, g1, fun tg1 us H1 ko w n rp => ?_⟩
            obtain ⟨k1, k2⟩ := k tg1 us H1 ko w n rp
            match us, k1, k2 with
            | [u, v], _, k2 => exact ⟨u, v, rfl, k2⟩
        | [], _, e2, _ => rw [e2] at hl; cases hl
        | [_], _, e2, _ => rw [e2] at hl; cases hl
        | _ :: _ :: _ :: _, _, e2, _ => rw [e2] at hl; simp at hl
      · match xs, e1, e2, e3 with
        | [p, q, r], e1, e2, e3 =>
          have e1 : is = [p.1, q.1, r.1] := e1
          have e2 : ts = [.Name p.2.1 p.2.2, .Name q.2.1 q.2.2, .Name r.2.1 r.2.2] := e2
          subst e1 e2
          match vs, pa, hst, h4 with
          | [a, b, d], pa, hst, _ =>
            have nd1 : p.1 ≠ q.1 ∧ p.1 ≠ r.1 ∧ q.1 ≠ r.1 := by
              simp only [List.nodup_cons, List.mem_cons, List.mem_singleton, not_or, List.not_mem_nil, or_false] at nd
              exact ⟨nd.1.1, nd.1.2, nd.2.1⟩
            refine (ps_len (ps_par3 G.g.calm hN (by rw [G.g.nm]; exact (chkSt_of (e3 p (by simp))).1) (by rw [G.g.nm]; exact (chkSt_of (e3 q (by simp))).1) (by rw [G.g.nm]; exact (chkSt_of (e3 r (by simp))).1) nd1.1 nd1.2.1 nd1.2.2 (hloc p.2.1 p.2.2 (by simp)) (hloc q.2.1 q.2.2 (by simp)) (hloc r.2.1 r.2.2 (by simp)) pa hst)).mono fun E σ H w hsl => ?_
            obtain ⟨tg, ρ, st, ss, st', s, g1, k⟩ := fin E σ H w hsl
            refine ⟨tg, ρ, st, ss, st', s, g1, fun tg1 us H1 ko w n rp => ?_⟩
            obtain ⟨k1, k2⟩ := k tg1 us H1 ko w n rp
            match us, k1, k2 with
            | [u, v, w], _, k2 => exact ⟨u, v, w, rfl, k2⟩
        | [], _, e2, _ => rw [e2] at hl; cases hl
        | [_], _, e2, _ => rw [e2] at hl; cases hl
        | [_, _], _, e2, _ => rw [e2] at hl; simp at hl
        | _ :: _ :: _ :: _ :: _, _, e2, _ => rw [e2] at hl; simp at hl
    · have hw0 : swP c.sc ts vs = 0 := by
        rcases h6 with z | z
        · exact z
        · exact absurd z.1 hw
      have hst := stP_of G (k := kt) (k2 := kv) (p := pt) (p2 := pv) hn (by rw [hw0]; decide)
      rw [if_neg hw] at hst
      refine (ps_len (ps_asg (pe_tup pa) (pg_names G h1) swT_of hst)).mono fun E σ H ⟨tg, ρ, st, fl, ρ', st', s, he, k⟩ hsl => ?_
      obtain ⟨ss, ρ2, g1, g2, g3⟩ := evP_ss he
      cases g3
      refine ⟨tg, ρ, st, ss, st', s, g1, fun tg1 us H1 ko w n rp => ⟨by rw [rp.length, hlen, h4, sizeLine_eq]; omega, fun p hp => ?_⟩⟩
      have ext := Ext.new (o := .tup us) w.dom hp
      refine ⟨p, us, rfl, SqT.of upd_same, rp.length, ?_⟩
      exact gNames_R (rp.kp ext.kp) g2 (fun i hi => by rw [hsl]; exact hin i hi) ((s.nextK ko.kp w n).nextK ext.kp (w.new hp) n) fun σ' s' => k tg1 σ' _ (ko.trans ext.ko).s s'
  · cases h
end
end Ev
set_option Elab.async false
set_option linter.all false
set_option maxRecDepth 100000
set_option maxHeartbeats 1000000
/-! Statements: objects changed, control flow; all statements. -/
namespace Ev
open PySem PySem.Spec PyProof.Rows L2

/-! ### a dict is walked, locked -/
/-- one dict read under a lock, or not -/
structure Rl (H H2 : Hp) (d : Addr) (ks : List (Key × V)) : Prop where
  off : ∀ a, a ≠ d → H2 a = H a
  a : Rd H d (.dK ks)
  b : Rd H2 d (.dK ks)
theorem Rd.one {H : Hp} {d : Addr} {ks ls : List (Key × V)} (a : Rd H d (.dK ks)) (b : Rd H d (.dK ls)) : ls = ks := by
  rcases a with a | ⟨o, a⟩ <;> rcases b with b | ⟨o', b⟩ <;> (rw [a] at b; cases b) <;> rfl
section
variable {K : PySem.W.Frag} {H H2 : Hp} {tg : TF} {d : Addr} {ks : List (Key × V)} {st : Sto}
theorem Rl.ne (e : Rl H H2 d ks) {a : Addr} {o : HO} (h : H a = some o) (h1 : ∀ ks, o ≠ .dK ks) (h2 : ∀ u ks, o ≠ .frz u (.dK ks)) : a ≠ d := fun z => by
  subst z
  rcases e.a with q | ⟨u, q⟩
  · rw [h] at q; cases q; exact h1 _ rfl
  · rw [h] at q; cases q; exact h2 _ _ rfl
theorem Rl.at (e : Rl H H2 d ks) {a : Addr} {o : HO} (h : H a = some o) (h1 : ∀ ks, o ≠ .dK ks) (h2 : ∀ u ks, o ≠ .frz u (.dK ks)) : H2 a = some o := by rw [e.off a (e.ne h h1 h2)]; exact h
theorem Rl.rd (e : Rl H H2 d ks) {a : Addr} {ls : List (Key × V)} (h : Rd H a (.dK ls)) : Rd H2 a (.dK ls) := by
  by_cases q : a = d
  · subst q
    rw [Rd.one e.a h]
    exact e.b
  · rcases h with h | ⟨o, h⟩
    · exact .inl (by rw [e.off a q]; exact h)
    · exact .inr ⟨o, by rw [e.off a q]; exact h⟩
mutual
theorem RV.rl (e : Rl H H2 d ks) : ∀ {x : D} {v : V}, RV K H tg v x → RV K H2 tg v x
  | .non, _, h => by cases h; exact .non
  | .bl b, _, h => by cases h; exact .bl b
  | .int b, _, h => by cases h; exact .int b
  | .str b, _, h => by cases h; exact .str b
  | .tup ds, _, h => by
    cases h with
    | tup h t r => exact .tup (e.at h (fun _ z => nomatch z) (fun _ _ z => nomatch z)) t (RVs.rl e r)
  | .kt ds, _, h => by
    cases h with
    | kt h r => exact .kt h (RVs.rl e r)
  | .lst ds, _, h => by
    cases h with
    | lst h t r => exact .lst (e.at h (fun _ z => nomatch z) (fun _ _ z => nomatch z)) t (RVs.rl e r)
  | .dct k kvs, _, h => by
    cases h with
    | dK h t r => exact .dK (e.rd h) t (RVk.rl e r)
    | dT h t r => exact .dT (e.at h (fun _ z => nomatch z) (fun _ _ z => nomatch z)) t (RVt.rl e r)
  | .ref l, _, h => by
    cases h with
    | ref t => exact .ref t
  | .scr ns, _, h => by
    cases h with
    | scr h => exact .scr (h.imp (fun ⟨o, h, t⟩ => ⟨o, e.at h (fun _ z => nomatch z) (fun _ _ z => nomatch z), t⟩) id)
theorem RVs.rl (e : Rl H H2 d ks) : ∀ {ds : List D} {xs : List V}, RVs K H tg xs ds → RVs K H2 tg xs ds
  | [], _, h => by cases h; exact .nil
  | d :: ds, _, h => by
    cases h with
    | cons h r => exact .cons (RV.rl e h) (RVs.rl e r)
theorem RVk.rl (e : Rl H H2 d ks) : ∀ {ds : List (D × D)} {xs : List (Key × V)}, RVk K H tg xs ds → RVk K H2 tg xs ds
  | [], _, h => by cases h; exact .nil
  | (k, d) :: ds, _, h => by
    cases h with
    | cons h r => exact .cons (RV.rl e h) (RVk.rl e r)
theorem RVt.rl (e : Rl H H2 d ks) : ∀ {ds : List (D × D)} {xs : List (List Key × V)}, RVt K H tg xs ds → RVt K H2 tg xs ds
  | [], _, h => by cases h; exact .nil
  | (k, d) :: ds, _, h => by
    cases h with
    | cons h r => exact .cons (RV.rl e h) (RVt.rl e r)
end
theorem RO.rl (e : Rl H H2 d ks) {a : Addr} {o : Ob} (ne : a ≠ d) (h : RO K H tg a o) : RO K H2 tg a o := by
  cases o with
  | lst ds => obtain ⟨xs, h, r⟩ := h; exact ⟨xs, by rw [e.off a ne]; exact h, r.rl e⟩
  | dct k kvs =>
    cases k with
    | false => obtain ⟨xs, h, r⟩ := h; exact ⟨xs, by rw [e.off a ne]; exact h, r.rl e⟩
    | true => obtain ⟨xs, h, r⟩ := h; exact ⟨xs, by rw [e.off a ne]; exact h, r.rl e⟩
theorem Wf.rl (e : Rl H H2 d ks) (t : tg d = none) (w : Wf K H tg st) : Wf K H2 tg st where
  dom := fun a h => by
    by_cases q : a = d
    · subst q; exact t
    · rw [e.off a q] at h; exact w.dom a h
  inj := w.inj
  bnd := w.bnd
  sto := fun l o h => by
    obtain ⟨a, h1, h2⟩ := w.sto l o h
    exact ⟨a, h1, h2.rl e (fun z => by subst z; rw [t] at h1; cases h1)⟩
theorem RSl.rl (e : Rl H H2 d ks) (t : tg d = none) {i : Nat} {x : Option (Option V)} {sl : Sl} (q : RSl K H tg i x sl) : RSl K H2 tg i x sl := by
  cases sl with
  | un => trivial
  | v d => obtain ⟨v, e1, r⟩ := q; exact ⟨v, e1, r.rl e⟩
  | own o => obtain ⟨a, e1, ta, r⟩ := q; exact ⟨a, e1, ta, r.rl e (fun z => by subst z; rw [t] at ta; cases ta)⟩
theorem StR.rl {ρ : Rho} {σ : L2.St} (e : Rl H H2 d ks) (t : tg d = none) (s : StR K H tg st ρ σ) : StR K H2 tg st ρ σ := ⟨s.wf.rl e t, s.nt, fun i => (s.sl i).rl e t⟩
theorem RX.rl (e : Rl H H2 d ks) (t : tg d = none) {v : V} {r : D × Bool} (q : RX K H tg v r) : RX K H2 tg v r := by
  obtain ⟨x, fr⟩ := r
  cases fr with
  | false => exact ⟨q.1, q.2.rl e⟩
  | true =>
    obtain ⟨a, o, e1, ta, u, ro, ed⟩ := q
    exact ⟨a, o, e1, ta, u, ro.rl e (fun z => by subst z; rw [t] at ta; cases ta), ed⟩
/-- the end, unlocked -/
theorem unlock_S {H' : Hp} {tg' : TF} {od : Obj} (h : H d = some (.dK ks)) (t : tg d = none) (ex : ExtS (upd H d (.frz od (.dK ks))) tg H' tg') :
    H' d = some (.frz od (.dK ks)) ∧ tg' d = none ∧ Rl H' (upd H' d (.dK ks)) d ks ∧ ExtS H tg (upd H' d (.dK ks)) tg' := by
  obtain ⟨h1, h2⟩ := ex.keep d _ upd_same (.inl t)
  refine ⟨h1, h2.trans t, ⟨fun a q => upd_ne q, .inr ⟨od, h1⟩, .inl upd_same⟩, ⟨fun a o ha ta => ?_, fun a l ha => ?_, ex.out⟩⟩
  · by_cases q : a = d
    · subst q
      rw [h] at ha
      cases ha
      exact ⟨upd_same, h2⟩
    · rw [upd_ne q]
      exact ex.keep a o (by rw [upd_ne q]; exact ha) ta
  · obtain ⟨h3, h4⟩ := ex.loc a l ha
    refine ⟨h3, ?_⟩
    have q : a ≠ d := fun z => by subst z; rw [t] at ha; cases ha
    rw [upd_ne q]
    exact h4
end
theorem RVk.get {K : PySem.W.Frag} {H : Hp} {tg : TF} : ∀ {kvs : List (D × D)} {ks : List (Key × V)} {i : Nat} {k : Key} {v : V}, RVk K H tg ks kvs → ks[i]? = some (k, v) → ∃ d, kvs[i]? = some (kD k, d) ∧ RV K H tg v d
  | [], _, i, k, v, h, e => by cases h; simp at e
  | _ :: _, _, 0, k, v, h, e => by
    cases h with
    | cons h r => simp at e; obtain ⟨rfl, rfl⟩ := e; exact ⟨_, rfl, h⟩
  | _ :: _, _, i + 1, k, v, h, e => by
    cases h with
    | cons h r =>
      obtain ⟨d, h1, h2⟩ := RVk.get (i := i) r (by simpa using e)
      exact ⟨d, by simpa using h1, h2⟩
theorem rv_key {K : PySem.W.Frag} {H : Hp} {tg : TF} (k : Key) : RV K H tg (kV k) (kD k) := by
  cases k with
  | inl i => exact .int i
  | inr s => exact .str s
theorem walk_it {K : PySem.W.Frag} {H : Hp} {tg : TF} {a : Addr} {od : Obj} {ks : List (Key × V)} {kvs : List (D × D)} (h : H a = some (.frz od (.dK ks))) (t : tg a = none) (r : RVk K H tg ks kvs) : WalkD K false (Iti a od ks) (kvs.map fun p => .tup [p.1, p.2]) H tg := by
  intro H1 tg1 q hd
  have q : Le H tg H1 tg1 := q
  obtain ⟨h1, t1⟩ := q.fz a _ h t
  have hl := r.length
  refine ⟨fun i hi => ⟨h1, by rw [List.length_map] at hi; omega⟩, ⟨h1, by rw [List.length_map]; omega⟩, fun i x H2 hi y => ?_⟩
  obtain ⟨T, k, v, e1, e2, hT, eH⟩ := y
  subst e2 eH
  obtain ⟨d, g1, g2⟩ := r.get e1
  have le : Le H tg (upd H1 T (.tup [kV k, v])) tg1 := q.trans ⟨fun b o hb t => ⟨by rw [upd_ne (ne_of_none hb hT)]; exact hb, t⟩, fun b l h => h⟩
  exact ⟨.tup [kD k, d], by rw [List.getElem?_map, g1]; rfl, .inr ⟨T, _, hT, rfl⟩, .tup upd_same (hd T hT) (.cons (rv_key k) (.cons (g2.mono le) .nil))⟩
theorem ps_or {X : Cx} {s : Stmt} {t t' : TS} (h : PS X s t) (h' : PS X s t') : PS X s (fun E σ H => t E σ H ∨ t' E σ H) :=
  ⟨fun pins sh σ H E I q => q.elim (fun q => h.run pins sh σ H E I q) fun q => h'.run pins sh σ H E I q⟩
theorem chkS_items {tg : Tg} {a : Ex} {b : Stm} {c : Cc} {s0 : Stmt} (h : chkS (.forin tg (.items a) b) c s0 = true) : ∃ t x p m apos cpos body q i, s0 = .For t (.Call (.Attribute (.Name x p) m apos) [] [] cpos) body [] q ∧ a = .var i ∧ chkTg c tg t = true ∧ isTup t = true ∧ chkN c i x = true ∧ m = "items" ∧ (apos.endLine == cpos.line) = true ∧ chkB b c body = true := by
  unfold chkS at h
  have h : (match (generalizing := false) s0 with
      | .For t (.Call (.Attribute (.Name x _) m apos) [] [] cpos) p [] _ => chkTg c tg t && isTup t && varOf c x a && decide (m = "items") && (apos.endLine == cpos.line) && chkB b c p
      | _ => false) = true := h
  split at h
  · simp only [Bool.and_eq_true, decide_eq_true_eq] at h
    obtain ⟨⟨⟨⟨⟨h1, h2⟩, h3⟩, h4⟩, h5⟩, h6⟩ := h
    cases a with
    | var i => exact ⟨_, _, _, _, _, _, _, _, i, rfl, rfl, h1, h2, h3, h4, h5, h6⟩
    | _ => cases h3
  · cases h
theorem chkS_for {tg : Tg} {it : Ex} {b : Stm} {c : Cc} {s0 : Stmt} (hi : ∀ a, it ≠ .items a) (h : chkS (.forin tg it b) c s0 = true) : ∃ t i body q, s0 = .For t i body [] q ∧ (chkTg c tg t && chki it c false i t && chkB b c body) = true := by
  unfold chkS at h
  have h : (match (generalizing := false) s0 with | .For t i p [] _ => chkTg c tg t && chki it c false i t && chkB b c p | _ => false) = true := by
    cases it with
    | items a => exact absurd rfl (hi a)
    | _ => exact h
  split at h
  · exact ⟨_, _, _, _, rfl, h⟩
  · cases h
section
variable {F : Nat → List D → Sto → Res (D × Bool)} {Γ : Nat → D} {X : Cx} {c : Cc}
/-! ### x[k] = v -/
theorem pset_or {t t' : TSet} (h : PSet X t) (h' : PSet X t') : PSet X (fun o i v H Q => t o i v H Q ∨ t' o i v H Q) := by
  intro pins s σ H o i v ov iv u Q I ro ri rv q
  rcases q with q | q
  · exact h pins s σ H o i v ov iv u Q I ro ri rv q
  · exact h' pins s σ H o i v ov iv u Q I ro ri rv q
def rSetA : TSet := fun o i v H Q => rSetL o i v H Q ∨ rSetD o i v H Q
theorem set_any (hu : X.A.units + 1 < cLine) : PSet X rSetA := pset_or set_list (set_dict hu)
theorem set_at_R {K : PySem.W.Frag} {H : Hp} {tg : TF} {a : Addr} {o o' : Ob} {y v : V} {k d : D} (ta : tg a ≠ none) (ro : RO K H tg a o) (ry : RB K H tg y k) (rv : RV K H tg v d) (h : setOb o k d = some o') :
    ∃ ho, RO K (upd H a ho) tg a o' ∧ ∀ Q : Hp → Prop, Q (upd H a ho) → rSetA (.ref a) y v H Q := by
  have le : ∀ ho, Le H tg (upd H a ho) tg := fun ho => ⟨fun b x h z => ⟨by
    have q : b ≠ a := fun q => by subst q; exact ta z
    rw [upd_ne q]; exact h, z⟩, fun _ _ h => h⟩
  cases o with
  | lst ds =>
    obtain ⟨xs, hx, rs⟩ := ro
    obtain ⟨i, h1, h2⟩ := Option.bind_eq_some_iff.mp (show ((asI k).bind fun i => (ixD ds.length i).map fun j => Ob.lst (ds.set j d)) = some o' from h)
    obtain ⟨j, h3, h4⟩ := Option.map_eq_some_iff.mp h2
    cases k with
    | int i' =>
      cases h1
      have hy := ry.int
      subst hy h4
      refine ⟨.lst (xs.set j v), ⟨_, upd_same, (RVs.set rv j rs).mono (le _)⟩, fun Q q => .inl ⟨a, xs, i, j, rfl, rfl, hx, ?_, q⟩⟩
      rw [rs.length]
      exact h3
    | _ => cases h1
  | dct kd kvs =>
    obtain ⟨h1, h2⟩ := if_some (show (if (keyD kd k && decide (kvs.length < LIM)) = true then some (Ob.dct kd (dput k d kvs)) else none) = some o' from h)
    rw [Bool.and_eq_true, decide_eq_true_eq] at h1
    cases h2
    cases kd with
    | false =>
      obtain ⟨ks, hx, rs⟩ := ro
      obtain ⟨ky, rfl, rfl⟩ := key_k ry h1.1
      exact ⟨_, ⟨_, upd_same, (put_k rv rs).mono (le _)⟩, fun Q q => .inr ⟨a, _, rfl, DPut.k hx (by rw [rs.length, sizeLine_eq]; exact h1.2), q⟩⟩
    | true =>
      obtain ⟨ks, hx, rs⟩ := ro
      obtain ⟨ky, q, rfl, hq, rfl⟩ := key_t ry h1.1
      exact ⟨_, ⟨_, upd_same, (put_t rv rs).mono (le _)⟩, fun Q q' => .inr ⟨a, _, rfl, DPut.t hx hq (by rw [rs.length, sizeLine_eq]; exact h1.2), q'⟩⟩
theorem asSub_of {o i : Expr} {pos : Pos} (h : notSlice i = true) : ∀ v, assign (.Subscript o i pos) X.env v = (do
      let ov ← holding [v] (eval o X.env)
      let iv ← holding [v, ov] (eval i X.env)
      standAt pos
      holding [v, ov, iv] (setItem ov iv v)
      release [v, ov, iv] []) := by
  intro v
  cases i <;> first | rfl | cases h
/-- one store at an index, its reading -/
theorem sub_R {K : PySem.W.Frag} {kk : Ex} {i : Nat} {v : V} {d : D} {tg : TF} {st : Sto} {ρ : Rho} {σ : L2.St} {H : Hp} {fl : Fl} {ρ' : Rho} {st' : Sto} {Q : L2.St → Hp → Prop}
    (s : StR K H tg st ρ σ) (rv : RV K H tg v d) (he : ((evE F Γ kk ρ st).bind fun y st => (lift (obAt ρ st i) st).bind fun o st => (lift (setOb o y d) st).bind fun o' st => obPut ρ st i o') = .ok (fl, ρ') st')
    (k : fl = .nx → ∀ tg' H', ExtS H tg H' tg' → StR K H' tg' st' ρ' σ → Q σ H') :
    gSub (tVar i) (tmB K (evE F Γ kk)) rSetA v σ H Q := by
  obtain ⟨y, st1, h1, h2⟩ := bind_ok he
  obtain ⟨o, st2, h3a, h4⟩ := bind_ok h2
  obtain ⟨h3, rfl⟩ := lift_ok h3a
  obtain ⟨o', st3, h5a, h6⟩ := bind_ok h4
  obtain ⟨h5, rfl⟩ := lift_ok h5a
  -- the name's value stands through the key's evaluation
  have hx : ∃ a, σ[i]? = some (some (.ref a)) := by
    unfold obAt at h3
    have q := s.sl i
    cases hs : get ρ i with
    | un => rw [hs] at h3; cases h3
    | own ob => rw [hs] at q; obtain ⟨a, e1, _⟩ := q; exact ⟨a, e1⟩
    | v d =>
      rw [hs] at h3 q
      cases d with
      | ref l =>
        obtain ⟨v, e1, r⟩ := q
        cases r
        exact ⟨_, e1⟩
      | _ => cases h3
  obtain ⟨a, hx⟩ := hx
  refine ⟨.ref a, hx, tg, ρ, st, y, _, s, h1, fun tg1 yv H1 e1 w1 r1 => ?_⟩
  have s1 := s.next e1 w1 r1.1
  obtain ⟨a', ea, ro, put⟩ := ob_of s1 h3
  rw [hx] at ea
  cases ea
  have ta : tg1 a ≠ none := by
    unfold obAt at h3
    have q := s1.sl i
    cases hs : get ρ i with
    | un => rw [hs] at h3; cases h3
    | own ob => rw [hs] at q; obtain ⟨b, e2, tb, _⟩ := q; rw [hx] at e2; cases e2; rw [tb]; exact fun z => nomatch z
    | v d =>
      rw [hs] at h3 q
      cases d with
      | ref l =>
        obtain ⟨v, e2, r⟩ := q
        cases r with
        | ref tb => rw [hx] at e2; cases e2; rw [tb]; exact fun z => nomatch z
      | _ => cases h3
  obtain ⟨ho, ro', fin⟩ := set_at_R ta ro r1.2 (rv.mono e1.le) h5
  obtain ⟨hf, s2, x2⟩ := put o' ho fl ρ' st' h6 ro'
  exact fin _ (k hf tg1 _ (e1.s.trans x2) s2)
theorem snd_setix {i : Nat} {kk e : Ex} : SndS F Γ (.setix i kk e) := by
  refine SndS.one' (fun z => nomatch z) (fun _ _ z => nomatch z) fun X c s0 G h => ?_
  unfold chkS at h
  split at h
  · simp only [Bool.and_eq_true] at h
    obtain ⟨⟨⟨h1, h2⟩, h3⟩, h4⟩ := h
    refine (ps_asg ((snd e).e G.g h4) (pg_sub (pe_name G.g h1) ((snd kk).b X c _ G.g h2) (set_any (by have := G.g.un; omega)) (asSub_of h3)) swSub_of stSub_of).mono fun E σ H ⟨tg, ρ, st, fl, ρ', st', s, he, k⟩ => ?_
    obtain ⟨d, st1, h5, h6⟩ := bind_ok (show ((evE F Γ e ρ st).bind fun v st => (evE F Γ kk ρ st).bind fun y st => (lift (obAt ρ st i) st).bind fun o st => (lift (setOb o y v) st).bind fun o' st => obPut ρ st i o') = .ok (fl, ρ') st' from he)
    refine ⟨tg, ρ, st, d, st1, s, h5, fun tg1 v H1 e1 w1 r1 => ?_⟩
    refine sub_R (s.next e1 w1 r1.1) r1.2 h6 fun hf tg' H' ex s' => ?_
    subst hf
    exact k tg' σ H' (e1.s.trans ex) s'
  · cases h
/-! ### x[a], y[b] = .. -/
theorem obPut_nx {ρ : Rho} {st : Sto} {i : Nat} {o : Ob} {r : Fl × Rho} {st' : Sto} (h : obPut ρ st i o = .ok r st') : ∃ ρ', r = (.nx, ρ') := by
  unfold obPut at h
  split at h
  · cases h; exact ⟨_, rfl⟩
  · cases h; exact ⟨_, rfl⟩
  · cases h
theorem evA_two {es : Ex} {vs : List Expr} {bw : Bool} (h : chks es c bw vs = true) (hl : vs.length = 2) {ρ : Rho} {st st' : Sto} {ds : List D} (he : evA F Γ es ρ st = .ok ds st') : ∃ d e, ds = [d, e] := by
  have := evA_len h he
  rw [hl] at this
  match ds, this with
  | [d, e], _ => exact ⟨d, e, rfl⟩
theorem snd_swap {i : Nat} {ka kb es : Ex} : SndS F Γ (.swap i ka kb es) := by
  refine SndS.one' (fun z => nomatch z) (fun _ _ z => nomatch z) fun X c s0 G h => ?_
  unfold chkS at h
  split at h
  · simp only [Bool.and_eq_true, beq_iff_eq] at h
    obtain ⟨⟨⟨⟨⟨⟨⟨h1, h2⟩, h3⟩, h4⟩, h5⟩, h6⟩, h7⟩, h8⟩ := h
    rename_i x px ks p1 y py ls p2 kt pt vs kv pv pos
    obtain ⟨pa, hn⟩ := (snd es).a X c _ G.g h7
    have hu : X.A.units + 1 < cLine := by have := G.g.un; omega
    have g1 := pg_sub (pos := p1) (pe_name G.g h1 (pos := px)) ((snd ka).b X c _ G.g h3) (set_any hu) (asSub_of h5)
    have g2 := pg_sub (pos := p2) (pe_name G.g h2 (pos := py)) ((snd kb).b X c _ G.g h4) (set_any hu) (asSub_of h6)
    have hst : swappedStores [.Tuple [.Subscript (.Name x px) ks p1, .Subscript (.Name y py) ls p2] kt pt] (.Tuple vs kv pv) X.env = pure none := by
      have hsw : swP c.sc [.Subscript (.Name x px) ks p1, .Subscript (.Name y py) ls p2] vs = 0 := by
        unfold swP
        rw [if_neg (by simp [h8]), if_pos (by rfl)]
      have := stP_of G (ts := [.Subscript (.Name x px) ks p1, .Subscript (.Name y py) ls p2]) (vs := vs) (k := kt) (k2 := kv) (p := pt) (p2 := pv) hn (by rw [hsw]; decide)
      rw [hsw] at this
      exact this
    refine (ps_asg (pe_tup pa) (pg_tup G.g.calm (pgs_cons g1 (pgs_cons g2 pgs_nil))) swT_of hst).mono fun E σ H ⟨tg, ρ, st, fl, ρ', st', s, he, k⟩ => ?_
    obtain ⟨ds, st1, h9, h10⟩ := bind_ok (show ((evA F Γ es ρ st).bind fun vs st => match vs with
      | [v, w] => (evE F Γ ka ρ st).bind fun y st => (lift (obAt ρ st i) st).bind fun o st => (lift (setOb o y v) st).bind fun o' st => (obPut ρ st i o').bind fun r st =>
        (evE F Γ kb r.2 st).bind fun z st => (lift (obAt r.2 st i) st).bind fun o st => (lift (setOb o z w) st).bind fun o' st => obPut r.2 st i o'
      | _ => .bad) = .ok (fl, ρ') st' from he)
    obtain ⟨d, e, rfl⟩ := evA_two h7 h8 h9
    have h10 : ((evE F Γ ka ρ st1).bind fun y st => (lift (obAt ρ st i) st).bind fun o st => (lift (setOb o y d) st).bind fun o' st => (obPut ρ st i o').bind fun r st =>
        (evE F Γ kb r.2 st).bind fun z st => (lift (obAt r.2 st i) st).bind fun o st => (lift (setOb o z e) st).bind fun o' st => obPut r.2 st i o') = .ok (fl, ρ') st' := h10
    -- the first store apart
    have split1 : ∃ ρ1 st2, ((evE F Γ ka ρ st1).bind fun y st => (lift (obAt ρ st i) st).bind fun o st => (lift (setOb o y d) st).bind fun o' st => obPut ρ st i o') = .ok (.nx, ρ1) st2 ∧
        ((evE F Γ kb ρ1 st2).bind fun z st => (lift (obAt ρ1 st i) st).bind fun o st => (lift (setOb o z e) st).bind fun o' st => obPut ρ1 st i o') = .ok (fl, ρ') st' := by
      obtain ⟨y, sa, q1, q2⟩ := bind_ok h10
      obtain ⟨o, sb, q3a, q4⟩ := bind_ok q2
      obtain ⟨q3, rfl⟩ := lift_ok q3a
      obtain ⟨o', sc, q5a, q6⟩ := bind_ok q4
      obtain ⟨q5, rfl⟩ := lift_ok q5a
      obtain ⟨r, sd, q7, q8⟩ := bind_ok q6
      obtain ⟨ρ1, rfl⟩ := obPut_nx q7
      refine ⟨ρ1, sd, ?_, q8⟩
      rw [q1]
      show ((lift (obAt ρ _ i) _).bind fun o st => (lift (setOb o y d) st).bind fun o' st => obPut ρ st i o') = _
      rw [q3]
      show ((lift (setOb o y d) _).bind fun o' st => obPut ρ st i o') = _
      rw [q5]
      exact q7
    obtain ⟨ρ1, st2, e1, e2⟩ := split1
    refine ⟨tg, ρ, st, [d, e], st1, s, h9, fun tg1 us H1 x1 w1 r1 => ?_⟩
    match us, r1 with
    | [u, v], r1 =>
      cases r1.2 with
      | cons ru rr =>
        cases rr with
        | cons rv rr =>
          refine ⟨by show 2 ≤ sizeLine; decide, fun p hp => ?_⟩
          have ext := Ext.new (o := .tup [u, v]) w1.dom hp
          refine ⟨p, [u, v], rfl, SqT.of upd_same, rfl, u, [v], rfl, ?_⟩
          have s1 := (s.next x1 w1 r1.1).next ext (w1.new hp) r1.1
          refine sub_R s1 (ru.mono ext.le) e1 fun _ tg2 H2 x2 s2 => ?_
          refine ⟨v, [], rfl, ?_⟩
          refine sub_R s2 ((rv.mono ext.le).mono x2.le) e2 fun hf tg3 H3 x3 s3 => ?_
          subst hf
          exact ⟨rfl, k tg3 σ H3 (((x1.trans ext).s.trans x2).trans x3) s3⟩
  · cases h
/-! ### x.append(v) -/
theorem snd_app {i : Nat} {e : Ex} : SndS F Γ (.app i e) := by
  refine SndS.one' (fun z => nomatch z) (fun _ _ z => nomatch z) fun X c s0 G h => ?_
  unfold chkS at h
  split at h
  · simp only [Bool.and_eq_true, decide_eq_true_eq] at h
    obtain ⟨⟨⟨⟨rfl, h1⟩, h2⟩, h3⟩, h4⟩ := h
    rename_i x px apos v cpos pos
    have hst := star_cons (es := []) (env := X.env) h3
    refine (ps_expr (pe_bm PySem.F.plainAttrs_list PySem.F.slot_list_append PySem.F.type_list_append mt_append (pe_name G.g h1) (pa_cons ((snd e).e G.g h2) pa_nil hst) rfl (by rw [hst]; rfl) h4 hst rfl)).mono fun E σ H ⟨tg, ρ, st, fl, ρ', st', s, he, k⟩ => ?_
    have he : (match obAt ρ st i with
      | some (.lst _) => (evE F Γ e ρ st).bind fun v st => (lift (obAt ρ st i) st).bind fun o st => match o with
        | .lst ds => if ds.length < LIM then obPut ρ st i (.lst (ds ++ [v])) else .bad
        | _ => .bad
      | _ => .bad) = .ok (fl, ρ') st' := he
    cases ho : obAt ρ st i with
    | none => rw [ho] at he; cases he
    | some ob =>
      cases ob with
      | dct _ _ => rw [ho] at he; cases he
      | lst ds0 =>
        rw [ho] at he
        obtain ⟨d, st1, h5, h6⟩ := bind_ok he
        obtain ⟨o, st2, h7a, h8⟩ := bind_ok h6
        obtain ⟨h7, rfl⟩ := lift_ok h7a
        obtain ⟨a, ea, ro, _⟩ := ob_of s ho
        obtain ⟨xs0, hx0, _⟩ := ro
        refine ⟨.ref a, ea, ?_, ?_⟩
        · exact .inl ⟨rfl, xs0, SqL.of hx0⟩
        · refine ⟨tg, ρ, st, d, _, s, h5, fun tg1 vv H1 e1 w1 r1 => ?_⟩
          have s1 := s.next e1 w1 r1.1
          obtain ⟨a', ea', ro, put⟩ := ob_of s1 h7
          rw [ea] at ea'
          cases ea'
          cases o with
          | dct _ _ => cases h8
          | lst ds =>
            obtain ⟨xs, hx, rs⟩ := ro
            by_cases hlt : ds.length < LIM
            · have h8 : (if ds.length < LIM then obPut ρ _ i (.lst (ds ++ [d])) else .bad) = .ok (fl, ρ') st' := h8
              rw [if_pos hlt] at h8
              refine ⟨a, xs, vv, rfl, rfl, hx, by rw [rs.length, sizeLine_eq]; exact hlt, ?_⟩
              have ta : tg1 a ≠ none := by
                unfold obAt at h7
                have q := s1.sl i
                cases hs : get ρ i with
                | un => rw [hs] at h7; cases h7
                | own ob => rw [hs] at q; obtain ⟨b, e2, tb, _⟩ := q; rw [ea] at e2; cases e2; rw [tb]; exact fun z => nomatch z
                | v d =>
                  rw [hs] at h7 q
                  cases d with
                  | ref l =>
                    obtain ⟨v, e2, r⟩ := q
                    cases r with
                    | ref tb => rw [ea] at e2; cases e2; rw [tb]; exact fun z => nomatch z
                  | _ => cases h7
              have le : Le H1 tg1 (upd H1 a (.lst (xs ++ [vv]))) tg1 := ⟨fun b x h z => ⟨by
                have q : b ≠ a := fun q => by subst q; exact ta z
                rw [upd_ne q]; exact h, z⟩, fun _ _ h => h⟩
              obtain ⟨hf, s2, x2⟩ := put (.lst (ds ++ [d])) (.lst (xs ++ [vv])) fl ρ' st' h8 ⟨_, upd_same, (RVs.append rs (.cons r1.2 .nil)).mono le⟩
              subst hf
              exact k tg1 σ _ (e1.s.trans x2) s2
            · have h8 : (if ds.length < LIM then obPut ρ _ i (.lst (ds ++ [d])) else .bad) = .ok (fl, ρ') st' := h8
              rw [if_neg hlt] at h8
              cases h8
  · cases h
/-! ### the rest -/
theorem snd_exp {e : Ex} : SndS F Γ (.exp e) := by
  refine SndS.one' (fun z => nomatch z) (fun _ _ z => nomatch z) fun X c s0 G h => ?_
  unfold chkS at h
  split at h
  · simp only [Bool.and_eq_true, Bool.not_eq_true'] at h
    obtain ⟨h1, h2⟩ := h
    refine (ps_expr ((snd e).e G.g h1) (swN_of h2)).mono fun E σ H ⟨tg, ρ, st, fl, ρ', st', s, he, k⟩ => ?_
    obtain ⟨d, st1, h3, h4⟩ := bind_ok (show ((evE F Γ e ρ st).bind fun _ st => .ok (Fl.nx, ρ) st) = .ok (fl, ρ') st' from he)
    cases h4
    exact ⟨tg, ρ, st, d, _, s, h3, fun tg1 v H1 e1 w1 r1 => k tg1 σ H1 e1.s (s.next e1 w1 r1.1)⟩
  · cases h
theorem test_split {t : Ex} {ρ : Rho} {st st' : Sto} {α : Type} {f : Bool → Sto → Res α} {r : α} (h : ((evE F Γ t ρ st).bind fun x st => (lift (asB x) st).bind f) = .ok r st') : ∃ b st1, evB F Γ t ρ st = .ok b st1 ∧ f b st1 = .ok r st' := by
  obtain ⟨x, s1, h1, h2⟩ := bind_ok h
  obtain ⟨b, s2, h3, h4⟩ := bind_ok h2
  refine ⟨b, s2, ?_, h4⟩
  show ((evE F Γ t ρ st).bind fun x st => lift (asB x) st) = _
  rw [h1]
  exact h3
theorem snd_ite {t : Ex} {a b : Stm} (Sa : SndS F Γ a) (Sb : SndS F Γ b) : SndS F Γ (.ite t a b) := by
  refine SndS.one' (fun z => nomatch z) (fun _ _ z => nomatch z) fun X c s0 G h => ?_
  unfold chkS at h
  split at h
  · simp only [Bool.and_eq_true] at h
    obtain ⟨⟨⟨h1, h2⟩, h3⟩, h4⟩ := h
    refine (ps_if ((snd t).t X c _ G.g h1 h2) (Sa.blk X c _ G h3) (Sb.blk X c _ G h4)).mono fun E σ H ⟨tg, ρ, st, fl, ρ', st', s, he, k⟩ => ?_
    obtain ⟨q, st1, h5, h6⟩ := test_split (show ((evE F Γ t ρ st).bind fun x st => (lift (asB x) st).bind fun c st => if c then evS F Γ a ρ st else evS F Γ b ρ st) = .ok (fl, ρ') st' from he)
    refine ⟨tg, ρ, st, q, st1, s, h5, fun tg1 b' H1 e1 w1 r1 => ?_⟩
    obtain ⟨n1, rfl⟩ := r1
    have kk : EndOk X.K E H1 tg1 fl ρ' st' := EndOk.ext (show EndOk X.K E H tg fl ρ' st' from k) e1.s
    cases q with
    | true => exact ⟨tg1, ρ, st1, fl, ρ', st', s.next e1 w1 n1, h6, kk⟩
    | false => exact ⟨tg1, ρ, st1, fl, ρ', st', s.next e1 w1 n1, h6, kk⟩
  · cases h
theorem snd_whl {t : Ex} {b : Stm} (Sb : SndS F Γ b) : SndS F Γ (.whl t b) := by
  refine SndS.one' (fun z => nomatch z) (fun _ _ z => nomatch z) fun X c s0 G h => ?_
  unfold chkS at h
  split at h
  · simp only [Bool.and_eq_true] at h
    obtain ⟨⟨h1, h2⟩, h3⟩ := h
    refine (ps_while G.pa ((snd t).t X c _ G.g h1 h2) (Sb.blk X c _ G h3)).mono fun E σ H ⟨tg, ρ, st, fl, ρ', st', s, he, k⟩ => ?_
    have he : whlL (fun ρ st => (evE F Γ t ρ st).bind fun x st => lift (asB x) st) (fun ρ st => evS F Γ b ρ st) WF ρ st = .ok (fl, ρ') st' := he
    have k : EndOk X.K E H tg fl ρ' st' := k
    refine ⟨fun m σ H => ∃ tg ρ st, StR X.K H tg st ρ σ ∧ whlL (fun ρ st => (evE F Γ t ρ st).bind fun x st => lift (asB x) st) (fun ρ st => evS F Γ b ρ st) m ρ st = .ok (fl, ρ') st' ∧ EndOk X.K E H tg fl ρ' st', ⟨WF, tg, ρ, st, s, he, k⟩, ?_⟩
    rintro m σ H ⟨tg, ρ, st, s, he, k⟩
    cases m with
    | zero => cases he
    | succ m =>
      obtain ⟨q, st1, h5, h6⟩ := bind_ok (show ((evB F Γ t ρ st).bind fun t' st => if t' then (evS F Γ b ρ st).bind fun r st => (match r.1 with
        | .nx => whlL (fun ρ st => (evE F Γ t ρ st).bind fun x st => lift (asB x) st) (fun ρ st => evS F Γ b ρ st) m r.2 st
        | .ct => whlL (fun ρ st => (evE F Γ t ρ st).bind fun x st => lift (asB x) st) (fun ρ st => evS F Γ b ρ st) m r.2 st
        | .bk => .ok (.nx, r.2) st
        | .rt d b => .ok (.rt d b, r.2) st) else .ok (.nx, ρ) st) = .ok (fl, ρ') st' from he)
      refine ⟨tg, ρ, st, q, st1, s, h5, fun tg1 b' H1 e1 w1 r1 => ?_⟩
      obtain ⟨n1, rfl⟩ := r1
      have k1 := k.ext e1.s
      have s1 := s.next e1 w1 n1
      cases q with
      | false =>
        cases h6
        exact k1 tg1 σ H1 (ExtS.refl w1.dom) s1
      | true =>
        rw [if_pos rfl]
        obtain ⟨r, st2, h7, h8⟩ := bind_ok (show ((evS F Γ b ρ st1).bind fun r st => (match r.1 with
          | .nx => whlL (fun ρ st => (evE F Γ t ρ st).bind fun x st => lift (asB x) st) (fun ρ st => evS F Γ b ρ st) m r.2 st
          | .ct => whlL (fun ρ st => (evE F Γ t ρ st).bind fun x st => lift (asB x) st) (fun ρ st => evS F Γ b ρ st) m r.2 st
          | .bk => .ok (.nx, r.2) st
          | .rt d b => .ok (.rt d b, r.2) st)) = .ok (fl, ρ') st' from h6)
        refine ⟨fun σ' H' => ∃ tg ρ st, StR X.K H' tg st ρ σ' ∧ whlL (fun ρ st => (evE F Γ t ρ st).bind fun x st => lift (asB x) st) (fun ρ st => evS F Γ b ρ st) m ρ st = .ok (fl, ρ') st' ∧ EndOk X.K E H' tg fl ρ' st', fun σ' H' w => ⟨m, Nat.lt_succ_self _, w⟩, ?_⟩
        obtain ⟨f1, ρ1⟩ := r
        refine ⟨tg1, ρ, st1, f1, ρ1, st2, s1, h7, ?_⟩
        cases f1 with
        | nx => exact fun tg2 σ' H' ex s' => ⟨tg2, ρ1, st2, s', h8, k1.ext ex⟩
        | ct => exact fun tg2 σ' H' ex s' => ⟨tg2, ρ1, st2, s', h8, k1.ext ex⟩
        | bk => cases h8; exact fun tg2 σ' H' ex s' => k1 tg2 σ' H' ex s'
        | rt d fr => cases h8; exact fun tg2 v H' ex w r => k1 tg2 v H' ex w r
  · cases h
theorem snd_foritems {tg : Tg} {a : Ex} {b : Stm} (Sb : SndS F Γ b) : SndS F Γ (.forin tg (.items a) b) := by
  refine SndS.one' (fun z => nomatch z) (fun _ _ z => nomatch z) fun X c s0 G h => ?_
  obtain ⟨t, x, p, m, apos, cpos, body, q, i, rfl, rfl, h1, h2, h3, rfl, h5, h6⟩ := chkS_items h
  cases t with
  | Tuple elts kk tpos =>
    generalize hstep : (fun (d : D) (ρ : Rho) (st : Sto) => (lift (bindT tg d ρ) st).bind fun ρ' st => evS F Γ b ρ' st) = step
    have core : ∀ (E : Ends) (σ : L2.St) (H : Hp) (tg0 : TF) (ρ ρ' : Rho) (st st' : Sto) (fl : Fl) (d : Addr) (od : Obj) (ks : List (Key × V)) (kvs : List (D × D)), StR X.K H tg0 st ρ σ → σ[i]? = some (some (.ref d)) → H d = some (.frz od (.dK ks)) → tg0 d = none → RVk X.K H tg0 ks kvs →
        forL step (kvs.map fun p => .tup [p.1, p.2]) ρ st = .ok (fl, ρ') st' → EndOk X.K E H tg0 fl ρ' st' → σ.length = X.N.length →
        tFor (iItems (tVar i)) (fun v σ H Q => σ.length = X.N.length → tmG X.K c.N.length tg v σ H Q) (tmS X.K (evS F Γ b)) E σ H := by
      intro E σ H tg0 ρ ρ' st st' fl d od ks kvs s hσ hd td rk h6 k hsl
      have walk := walk_it hd td rk
      generalize hxs : (kvs.map fun p => D.tup [p.1, p.2]) = xs at h6 walk
      refine ⟨.ref d, hσ, d, od, ks, rfl, hd, ?_⟩
      refine ⟨fun i m σ H1 => m = xs.length - i ∧ i ≤ xs.length ∧ ∃ tgi ρ st, StR X.K H1 tgi st ρ σ ∧ ExtS H tg0 H1 tgi ∧ forL step (xs.drop i) ρ st = .ok (fl, ρ') st' ∧ EndOk X.K E H1 tgi fl ρ' st', ⟨xs.length, by simp, Nat.zero_le _, tg0, ρ, st, s, ExtS.refl s.wf.dom, h6, k⟩, ?_⟩
      rintro i m σ H2 ⟨rfl, hi, tgi, ρi, sti, si, ex, hf, ki⟩
      obtain ⟨wgo, wstop, wyld⟩ := walk H2 tgi ex.le si.wf.dom
      by_cases hlt : i < xs.length
      · refine .inr ⟨wgo i hlt, _, fun σ' H' w => ⟨xs.length - (i + 1), by omega, w⟩, fun x H3 hy => ?_⟩
        obtain ⟨d, hd1, hgrow, rv⟩ := wyld i x H3 hlt hy
        have ex3 : Ext H2 tgi H3 tgi := by
          rcases hgrow with rfl | ⟨p, o, hp, rfl⟩
          · exact Ext.refl si.wf.dom
          · exact Ext.new si.wf.dom hp
        have wf3 : Wf X.K H3 tgi sti := by
          rcases hgrow with rfl | ⟨p, o, hp, rfl⟩
          · exact si.wf
          · exact si.wf.new hp
        have hdrop : xs.drop i = d :: xs.drop (i + 1) := by
          rw [List.drop_eq_getElem_cons hlt]
          congr 1
          rw [List.getElem?_eq_getElem hlt] at hd1
          exact Option.some.inj hd1
        rw [hdrop] at hf
        obtain ⟨r, st2, h7, h8⟩ := bind_ok (show ((step d ρi sti).bind fun r st => (match r.1 with
          | .nx => forL step (xs.drop (i + 1)) r.2 st
          | .ct => forL step (xs.drop (i + 1)) r.2 st
          | .bk => .ok (.nx, r.2) st
          | .rt d b => .ok (.rt d b, r.2) st)) = .ok (fl, ρ') st' from hf)
        rw [← hstep] at h7
        obtain ⟨ρ2, st3, h9a, h10⟩ := bind_ok h7
        obtain ⟨h9, rfl⟩ := lift_ok h9a
        obtain ⟨f1, ρ1⟩ := r
        intro hN hN2
        refine ⟨tgi, ρi, _, d, ρ2, wf3, si.nt, fun j hj => (si.sl.ext ex3) j, rv, h9, fun σ2 s2 hj2 hl2 => ?_⟩
        refine ⟨tgi, ρ2, _, f1, ρ1, st2, s2, h10, ?_⟩
        have k3 := ki.ext ex3.s
        have ex' := ex.trans ex3.s
        cases f1 with
        | nx => exact fun tg2 σ' H' x' s' => ⟨rfl, by omega, tg2, ρ1, st2, s', ex'.trans x', h8, k3.ext x'⟩
        | ct => exact fun tg2 σ' H' x' s' => ⟨rfl, by omega, tg2, ρ1, st2, s', ex'.trans x', h8, k3.ext x'⟩
        | bk => cases h8; exact fun tg2 σ' H' x' s' => k3 tg2 σ' H' x' s'
        | rt d fr => cases h8; exact fun tg2 v H' x' w r => k3 tg2 v H' x' w r
      · left
        have hi' : i = xs.length := by omega
        subst hi'
        rw [List.drop_length] at hf
        cases hf
        exact ⟨wstop, ki tgi σ H2 (ExtS.refl si.wf.dom) si⟩
    have pf := ps_len (s := .For (.Tuple elts kk tpos) (.Call (.Attribute (.Name x p) "items" apos) [] [] cpos) body [] q) (ps_for (wi := iItems (tVar i)) G.pa G.g.calm (pi_items (pe_name G.g h3) rfl h5) (pg_len (pg_tg G.g h1)) (Sb.blk X c _ G h6) (fun _ => rfl))
    refine (ps_or (ps_lock pf) pf).mono fun E σ H ⟨tg0, ρ, st, fl, ρ', st', s, he, k⟩ => ?_
    have k : EndOk X.K E H tg0 fl ρ' st' := k
    obtain ⟨xs, st1, h7, h8⟩ := bind_ok (show ((evI F Γ (.items (.var i)) ρ st).bind fun xs st => forL (fun d ρ st => (lift (bindT tg d ρ) st).bind fun ρ' st => evS F Γ b ρ' st) xs ρ st) = .ok (fl, ρ') st' from he)
    rw [hstep] at h8
    obtain ⟨x', st2, h9, h10⟩ := bind_ok (show ((evE F Γ (.var i) ρ st).bind fun x st => match x with
      | .dct false kvs => Res.ok (kvs.map fun p => D.tup [p.1, p.2]) st
      | _ => .bad) = .ok xs st1 from h7)
    have h9 : (match get ρ i with | .v d => Res.ok d st | _ => .bad) = .ok x' st2 := h9
    have sl := s.sl i
    cases hs : get ρ i with
    | un => rw [hs] at h9; cases h9
    | own o => rw [hs] at h9; cases h9
    | v d =>
      rw [hs] at h9 sl
      cases h9
      obtain ⟨v, e1, r⟩ := sl
      cases r with
      | dK hd td rk =>
        cases h10
        rename_i a ks kvs
        rcases hd with hd | ⟨od, hd⟩
        · refine .inl ⟨a, .dK ks, hd, trivial, fun od hsl => ?_⟩
          have rl : Rl H (upd H a (.frz od (.dK ks))) a ks := ⟨fun b q => upd_ne q, .inl hd, .inr ⟨od, upd_same⟩⟩
          refine core _ σ _ tg0 ρ ρ' _ st' fl a od ks kvs (s.rl rl td) e1 upd_same td (rk.rl rl) h8 ?_ hsl
          cases fl with
          | nx => exact fun tg' σ' H' ex s' => let ⟨u1, u2, u3, u4⟩ := unlock_S hd td ex; ⟨u1, k tg' σ' _ u4 (s'.rl u3 u2)⟩
          | bk => exact fun tg' σ' H' ex s' => let ⟨u1, u2, u3, u4⟩ := unlock_S hd td ex; ⟨u1, k tg' σ' _ u4 (s'.rl u3 u2)⟩
          | ct => exact fun tg' σ' H' ex s' => let ⟨u1, u2, u3, u4⟩ := unlock_S hd td ex; ⟨u1, k tg' σ' _ u4 (s'.rl u3 u2)⟩
          | rt d fr => exact fun tg' v H' ex w r => let ⟨u1, u2, u3, u4⟩ := unlock_S hd td ex; ⟨u1, k tg' v _ u4 (w.rl u3 u2) (r.rl u3 u2)⟩
        · exact .inr fun hsl => core _ σ _ tg0 ρ ρ' _ st' fl a od ks kvs s e1 hd td rk h8 k hsl
      | _ => cases h10
  | _ => cases h2
theorem snd_forin {tg : Tg} {it : Ex} {b : Stm} (Sb : SndS F Γ b) : SndS F Γ (.forin tg it b) := by
  by_cases hi : ∃ a, it = .items a
  · obtain ⟨a, rfl⟩ := hi
    exact snd_foritems Sb
  · refine SndS.one' (fun z => nomatch z) (fun _ _ z => nomatch z) fun X c s0 G h => ?_
    obtain ⟨t, i, body, q, rfl, h0⟩ := chkS_for (fun a e => hi ⟨a, e⟩) h
    simp only [Bool.and_eq_true] at h0
    obtain ⟨⟨h1, h2⟩, h3⟩ := h0
    refine (ps_len (ps_for G.pa G.g.calm ((snd it).i X c false _ _ G.g h2) (pg_len (pg_tg G.g h1)) (Sb.blk X c _ G h3) (fun x => no_fold (chki_notSet h2) x))).mono fun E σ H ⟨tg0, ρ, st, fl, ρ', st', s, he, k⟩ hsl => ?_
    generalize hstep : (fun (d : D) (ρ : Rho) (st : Sto) => (lift (bindT tg d ρ) st).bind fun ρ' st => evS F Γ b ρ' st) = step at *
    obtain ⟨xs, st1, h5, h6⟩ := bind_ok (show ((evI F Γ it ρ st).bind fun xs st => forL (fun d ρ st => (lift (bindT tg d ρ) st).bind fun ρ' st => evS F Γ b ρ' st) xs ρ st) = .ok (fl, ρ') st' from he)
    rw [hstep] at h6
    have k : EndOk X.K E H tg0 fl ρ' st' := k
    refine ⟨tg0, ρ, st, xs, st1, s, h5, fun tg1 J H1 e1 w1 n1 walk => ?_⟩
    refine ⟨fun i m σ H => m = xs.length - i ∧ i ≤ xs.length ∧ ∃ tgi ρ st, StR X.K H tgi st ρ σ ∧ ExtS H1 tg1 H tgi ∧ forL step (xs.drop i) ρ st = .ok (fl, ρ') st' ∧ EndOk X.K E H tgi fl ρ' st', ⟨xs.length, by simp, Nat.zero_le _, tg1, ρ, st1, s.next e1 w1 n1, ExtS.refl w1.dom, h6, k.ext e1.s⟩, ?_⟩
    rintro i m σ H2 ⟨rfl, hi, tgi, ρi, sti, si, ex, hf, ki⟩
    obtain ⟨wgo, wstop, wyld⟩ := walk H2 tgi ex.le si.wf.dom
    by_cases hlt : i < xs.length
    · refine .inr ⟨wgo i hlt, _, fun σ' H' w => ⟨xs.length - (i + 1), by omega, w⟩, fun x H3 hy => ?_⟩
      obtain ⟨d, hd1, hgrow, rv⟩ := wyld i x H3 hlt hy
      have ex3 : Ext H2 tgi H3 tgi := by
        rcases hgrow with rfl | ⟨p, o, hp, rfl⟩
        · exact Ext.refl si.wf.dom
        · exact Ext.new si.wf.dom hp
      have wf3 : Wf X.K H3 tgi sti := by
        rcases hgrow with rfl | ⟨p, o, hp, rfl⟩
        · exact si.wf
        · exact si.wf.new hp
      have hdrop : xs.drop i = d :: xs.drop (i + 1) := by
        rw [List.drop_eq_getElem_cons hlt]
        congr 1
        rw [List.getElem?_eq_getElem hlt] at hd1
        exact Option.some.inj hd1
      rw [hdrop] at hf
      obtain ⟨r, st2, h7, h8⟩ := bind_ok (show ((step d ρi sti).bind fun r st => (match r.1 with
        | .nx => forL step (xs.drop (i + 1)) r.2 st
        | .ct => forL step (xs.drop (i + 1)) r.2 st
        | .bk => .ok (.nx, r.2) st
        | .rt d b => .ok (.rt d b, r.2) st)) = .ok (fl, ρ') st' from hf)
      rw [← hstep] at h7
      obtain ⟨ρ2, st3, h9a, h10⟩ := bind_ok h7
      obtain ⟨h9, rfl⟩ := lift_ok h9a
      obtain ⟨f1, ρ1⟩ := r
      intro hN hN2
      refine ⟨tgi, ρi, _, d, ρ2, wf3, si.nt, fun j hj => (si.sl.ext ex3) j, rv, h9, fun σ2 s2 hj2 hl2 => ?_⟩
      refine ⟨tgi, ρ2, _, f1, ρ1, st2, s2, h10, ?_⟩
      have k3 := ki.ext ex3.s
      have ex' := ex.trans ex3.s
      cases f1 with
      | nx => exact fun tg2 σ' H' x' s' => ⟨rfl, by omega, tg2, ρ1, st2, s', ex'.trans x', h8, k3.ext x'⟩
      | ct => exact fun tg2 σ' H' x' s' => ⟨rfl, by omega, tg2, ρ1, st2, s', ex'.trans x', h8, k3.ext x'⟩
      | bk => cases h8; exact fun tg2 σ' H' x' s' => k3 tg2 σ' H' x' s'
      | rt d fr => cases h8; exact fun tg2 v H' x' w r => k3 tg2 v H' x' w r
    · left
      have hi' : i = xs.length := by omega
      subst hi'
      rw [List.drop_length] at hf
      cases hf
      exact ⟨wstop, ki tgi σ H2 (ExtS.refl si.wf.dom) si⟩
theorem snd_ret {e : Ex} : SndS F Γ (.ret e) := by
  refine SndS.one' (fun z => nomatch z) (fun _ _ z => nomatch z) fun X c s0 G h => ?_
  unfold chkS at h
  split at h
  · rw [Bool.or_eq_true] at h
    rename_i v pos
    rcases h with h | h
    · refine (ps_ret ((snd e).x X c _ G.g h)).mono fun E σ H ⟨tg, ρ, st, fl, ρ', st', s, he, k⟩ => ?_
      obtain ⟨r, st1, h3, h4⟩ := bind_ok (show ((evX F Γ e ρ st).bind fun d st => .ok (Fl.rt d.1 d.2, ρ) st) = .ok (fl, ρ') st' from he)
      cases h4
      exact ⟨tg, ρ, st, r, _, s, h3, fun tg1 v H1 e1 w1 r1 => k tg1 v H1 e1.s w1 r1⟩
    · cases e with
      | own i =>
        cases v with
        | Name x px =>
          refine (ps_ret (pe_name G.g h)).mono fun E σ H ⟨tg, ρ, st, fl, ρ', st', s, he, k⟩ => ?_
          obtain ⟨r, st1, h3, h4⟩ := bind_ok (show ((evX F Γ (.own i) ρ st).bind fun d st => .ok (Fl.rt d.1 d.2, ρ) st) = .ok (fl, ρ') st' from he)
          cases h4
          have h3 : ((match get ρ i with | .own o => Res.ok o.toD st | _ => .bad).bind fun d st => .ok (d, true) st) = .ok r st' := h3
          have q := s.sl i
          cases hs : get ρ i with
          | un => rw [hs] at h3; cases h3
          | v d => rw [hs] at h3; cases h3
          | own o =>
            rw [hs] at h3 q
            cases h3
            obtain ⟨a, e1, ta, ro⟩ := q
            obtain ⟨le, w, ex⟩ := remark (t := some .tmp) s.wf ta (fun _ z => nomatch z) (fun z => nomatch z)
            refine ⟨_, e1, k _ _ H ex w ⟨a, o, rfl, mark_same, fun b hb => ?_, ro.mono le rfl, rfl⟩⟩
            by_cases q : b = a
            · exact q
            · rw [mark_ne q] at hb; exact absurd hb (s.nt b)
        | _ => cases h
      | _ => cases h
  · cases e with
    | cnon =>
      refine ps_retN.mono fun E σ H ⟨tg, ρ, st, fl, ρ', st', s, he, k⟩ => ?_
      cases he
      exact k tg _ H (ExtS.refl s.wf.dom) s.wf ⟨s.nt, .non⟩
    | _ => cases h
  · cases h
theorem snd_brk : SndS F Γ .brk := by
  refine SndS.one' (fun z => nomatch z) (fun _ _ z => nomatch z) fun X c s0 G h => ?_
  unfold chkS at h
  split at h
  · refine ps_break.mono fun E σ H ⟨tg, ρ, st, fl, ρ', st', s, he, k⟩ => ?_
    cases he
    exact k tg σ H (ExtS.refl s.wf.dom) s
  · cases h
theorem snd_cnt : SndS F Γ .cnt := by
  refine SndS.one' (fun z => nomatch z) (fun _ _ z => nomatch z) fun X c s0 G h => ?_
  unfold chkS at h
  split at h
  · refine ps_continue.mono fun E σ H ⟨tg, ρ, st, fl, ρ', st', s, he, k⟩ => ?_
    cases he
    exact k tg σ H (ExtS.refl s.wf.dom) s
  · cases h
theorem snd_pass : SndS F Γ .pass := by
  refine SndS.one' (fun z => nomatch z) (fun _ _ z => nomatch z) fun X c s0 G h => ?_
  unfold chkS at h
  split at h
  · refine ps_pass.mono fun E σ H ⟨tg, ρ, st, fl, ρ', st', s, he, k⟩ => ?_
    cases he
    exact k tg σ H (ExtS.refl s.wf.dom) s
  · refine ps_doc.mono fun E σ H ⟨tg, ρ, st, fl, ρ', st', s, he, k⟩ => ?_
    cases he
    exact k tg σ H (ExtS.refl s.wf.dom) s
  · cases h
theorem snd_never : SndS F Γ .never := by
  refine SndS.one' (fun z => nomatch z) (fun _ _ z => nomatch z) fun X c s0 G h => ?_
  exact ps_never.mono fun E σ H ⟨tg, ρ, st, fl, ρ', st', s, he, k⟩ => by cases he
theorem snd_skip : SndS F Γ .skip where
  blk := fun X c ss G h => by
    cases ss with
    | nil =>
      refine pss_nil.mono fun E σ H ⟨tg, ρ, st, fl, ρ', st', s, he, k⟩ => ?_
      cases he
      exact k tg σ H (ExtS.refl s.wf.dom) s
    | cons _ _ => cases h
  one := fun X c s0 G h => by unfold chkS at h; cases h
theorem ghost_no {g : Stm} (h : ghost g = true) : SndS F Γ g := by
  cases g with
  | fz i => exact ⟨fun X c ss G h => (by unfold chkB at h; cases h), fun X c s0 G h => (by unfold chkS at h; cases h)⟩
  | shr i => exact ⟨fun X c ss G h => (by unfold chkB at h; cases h), fun X c s0 G h => (by unfold chkS at h; cases h)⟩
  | _ => cases h
theorem snd_seqS {a b : Stm} (Sa : SndS F Γ a) (Sb : SndS F Γ b) : SndS F Γ (.seq a b) where
  blk := fun X c ss G h => by
    unfold chkB at h
    have ev : ∀ {ρ : Rho} {st st' : Sto} {fl : Fl} {ρ' : Rho}, evS F Γ (.seq a b) ρ st = .ok (fl, ρ') st' → ∃ f1 ρ1 st1, evS F Γ a ρ st = .ok (f1, ρ1) st1 ∧ (match f1 with
        | .nx => evS F Γ b ρ1 st1
        | f => .ok (f, ρ1) st1) = .ok (fl, ρ') st' := fun {ρ st st' fl ρ'} he => by
      obtain ⟨r, st1, h1, h2⟩ := bind_ok (show ((evS F Γ a ρ st).bind fun r st => (match r.1 with
        | .nx => evS F Γ b r.2 st
        | f => .ok (f, r.2) st)) = .ok (fl, ρ') st' from he)
      obtain ⟨f1, ρ1⟩ := r
      exact ⟨f1, ρ1, st1, h1, h2⟩
    cases hg : ghost a with
    | true =>
      rw [hg, if_pos rfl] at h
      refine (Sb.blk X c ss G h).mono fun E σ H ⟨tg, ρ, st, fl, ρ', st', s, he, k⟩ => ?_
      obtain ⟨f1, ρ1, st1, h1, h2⟩ := ev he
      obtain ⟨rfl, tg2, ex, s2⟩ := ghost_R hg s h1
      exact ⟨tg2, ρ1, st1, fl, ρ', st', s2, h2, EndOk.ext (show EndOk X.K E H tg fl ρ' st' from k) ex⟩
    | false =>
      rw [hg, if_neg Bool.false_ne_true] at h
      cases ss with
      | nil => cases h
      | cons s0 ss =>
        have h : (chkS a c s0 && chkB b c ss) = true := h
        rw [Bool.and_eq_true] at h
        refine (pss_cons (Sa.one X c s0 G h.1) (Sb.blk X c ss G h.2)).mono fun E σ H ⟨tg, ρ, st, fl, ρ', st', s, he, k⟩ => ?_
        obtain ⟨f1, ρ1, st1, h1, h2⟩ := ev he
        have k : EndOk X.K E H tg fl ρ' st' := k
        refine ⟨tg, ρ, st, f1, ρ1, st1, s, h1, ?_⟩
        cases f1 with
        | nx => exact fun tg' σ' H' ex s' => ⟨tg', ρ1, st1, fl, ρ', st', s', h2, k.ext ex⟩
        | bk => cases h2; exact k
        | ct => cases h2; exact k
        | rt d fr => cases h2; exact k
  one := fun X c s0 G h => by unfold chkS at h; cases h
theorem sndS : ∀ s : Stm, SndS F Γ s
  | .skip => snd_skip
  | .seq a b => snd_seqS (sndS a) (sndS b)
  | .asg i e => snd_asg
  | .asgo i e => snd_asgo
  | .tasg is e => snd_tasg
  | .pasg is os es => snd_pasg
  | .fz i => ghost_no rfl
  | .shr i => ghost_no rfl
  | .setix i k e => snd_setix
  | .swap i a b es => snd_swap
  | .app i e => snd_app
  | .exp e => snd_exp
  | .ite t a b => snd_ite (sndS a) (sndS b)
  | .whl t b => snd_whl (sndS b)
  | .forin tg it b => snd_forin (sndS b)
  | .ret e => snd_ret
  | .brk => snd_brk
  | .cnt => snd_cnt
  | .pass => snd_pass
  | .never => snd_never
end
end Ev
set_option Elab.async false
set_option linter.all false
set_option maxRecDepth 100000
set_option maxHeartbeats 1000000
/-! A module's defs: each keeps its plain meaning. -/
namespace Ev
open PySem PySem.Spec PyProof.Rows L2
/-- constants of the module -/
inductive Gv where
  | int (i : Int) | str (s : Str) | tup (l : List Str)
structure DefC where
  name : Str
  st : Stmt
  N : List Str
  d : Df
structure Md where
  defs : List DefC
  gs : List (Str × Gv)
def Gv.d : Gv → D
  | .int i => .int i
  | .str s => .str s
  | .tup l => .kt (l.map .str)
def Md.gl (m : Md) (g : Nat) : Option Str := (m.gs[g]?).map (·.1)
def Md.fn (m : Md) (f : Nat) : Option Str := (m.defs[f]?).map (·.name)
def Md.Γ (m : Md) (g : Nat) : D := match m.gs[g]? with
  | some p => p.2.d
  | none => .non
def Md.Δ (m : Md) (f : Nat) : Option Df := (m.defs[f]?).map (·.d)
def DefC.ps (d : DefC) : List Str := d.N.take d.d.np
def Md.cc (m : Md) (dc : DefC) : Cc := ⟨dc.N, defScope dc.st, m.gl, m.fn⟩
def scopeB (dc : DefC) : Bool :=
  (match (defScope dc.st).kind with | .function => true | _ => false) && !(defScope dc.st).isCoroutine && !(defScope dc.st).isGenerator && decide dc.N.Nodup && decide (dc.d.np ≤ dc.N.length) &&
    dc.ps.all (fun x => isLoc (defScope dc.st) x) && (defScope dc.st).names.all (fun y => match y.2 with | .free => false | _ => true)
def Md.ok1 (m : Md) (dc : DefC) : Bool := chkB dc.d.body (m.cc dc) (defBody dc.st) && scopeB dc
theorem isLoc_of {sc : Scope} {x : Str} (h : isLoc sc x = true) : Loc sc x := by
  unfold isLoc at h
  split at h
  · exact .inl (by assumption)
  · exact .inr (by assumption)
  · cases h
theorem isVis_of {sc : Scope} {x : Str} (h : isVis sc x = true) : Vis sc x := by
  unfold isVis at h
  split at h
  · exact .inl (by assumption)
  · exact .inr (.inl (by assumption))
  · exact .inr (.inr (by assumption))
  · cases h
theorem isGlo_of {sc : Scope} {x : Str} (h : isGlo sc x = true) : sc.names.lookup x = some .globalImplicit := by
  unfold isGlo at h
  split at h
  · assumption
  · cases h
theorem DefC.ps_len {dc : DefC} (h : scopeB dc = true) : dc.ps.length = dc.d.np := by
  unfold scopeB at h
  simp only [Bool.and_eq_true, decide_eq_true_eq] at h
  unfold DefC.ps
  rw [List.length_take]
  have := h.1.1.2
  omega
theorem scope_of {dc : DefC} (h : scopeB dc = true) : FnScope dc.N dc.ps (defScope dc.st) := by
  have hl := DefC.ps_len h
  unfold scopeB at h
  simp only [Bool.and_eq_true, decide_eq_true_eq, Bool.not_eq_true', List.all_eq_true] at h
  obtain ⟨⟨⟨⟨⟨⟨h1, h2⟩, h3⟩, h4⟩, h5⟩, h6⟩, h7⟩ := h
  refine ⟨?_, h2, h3, h4, ?_, fun x hx => isLoc_of (h6 x hx), fun y hy e => ?_⟩
  · split at h1
    · assumption
    · cases h1
  · rw [hl]; rfl
  · have := h7 y hy
    rw [e] at this
    cases this
def Bd (dc : DefC) : Prop := ∀ (kV doc pm : Value) (an : Option Addr) (cdv ct : Value) (us : List Value), us.length = dc.ps.length → bindArgs (PySem.W.fnOf dc.name dc.name (defArgs dc.st) (defBody dc.st) (defScope dc.st) .none kV doc pm an cdv ct) ⟨us, []⟩ = pure (dc.ps.zip us)
structure MdF (m : Md) (K : PySem.W.Frag) (mg : Str → Option Value) : Prop where
  defs : ∀ (f : Nat) (dc : DefC), m.defs[f]? = some dc → ∃ a fd, mg dc.name = some (.ref a) ∧ FunD K dc.name dc.name (defArgs dc.st) (defBody dc.st) (defScope dc.st) [] [] a fd
  bl : ∀ x ∈ bnames, mg x = none
  gls : ∀ (g : Nat) (p : Str × Gv), m.gs[g]? = some p → ∃ u v, mg p.1 = some u ∧ RelV v u ∧ ∀ H tg, RV K H tg v p.2.d
  bd : ∀ (f : Nat) (dc : DefC), m.defs[f]? = some dc → Bd dc
/-! ### a call's marks -/
def inTg (tg : TF) : TF := fun a => match tg a with
  | some (.slot _) => some .outer
  | t => t
def isSl : Option Tag → Bool
  | some (.slot _) => true
  | _ => false
theorem isSl_iff {t : Option Tag} : isSl t = true ↔ ∃ i, t = some (.slot i) := by
  cases t with
  | none => exact ⟨fun z => (by cases z), fun z => (by obtain ⟨_, z⟩ := z; cases z)⟩
  | some t => cases t <;> first | exact ⟨fun _ => ⟨_, rfl⟩, fun _ => rfl⟩ | exact ⟨fun z => (by cases z), fun z => (by obtain ⟨_, z⟩ := z; cases z)⟩
def outTg (tg tg' : TF) : TF := fun a => if isSl (tg a) = true then tg a else if isSl (tg' a) = true then none else tg' a
theorem in_loc {tg : TF} {a : Addr} {l : Nat} : inTg tg a = some (.loc l) ↔ tg a = some (.loc l) := by
  unfold inTg
  cases tg a with
  | none => exact Iff.rfl
  | some t => cases t <;> simp
theorem in_none {tg : TF} {a : Addr} : inTg tg a = none ↔ tg a = none := by
  unfold inTg
  cases tg a with
  | none => exact Iff.rfl
  | some t => cases t <;> simp
theorem in_out {tg : TF} {a : Addr} : inTg tg a = some .outer ↔ tg a = some .outer ∨ ∃ i, tg a = some (.slot i) := by
  unfold inTg
  cases tg a with
  | none => simp
  | some t => cases t <;> simp
theorem in_wf {K : PySem.W.Frag} {H : Hp} {tg : TF} {st : Sto} (w : Wf K H tg st) (nt : NoTmp tg) : Wf K H (inTg tg) st ∧ NoTmp (inTg tg) ∧ Le H tg H (inTg tg) := by
  have le : Le H tg H (inTg tg) := ⟨fun a o h t => ⟨h, in_none.mpr t⟩, fun a l h => in_loc.mpr h⟩
  refine ⟨⟨fun a h => in_none.mpr (w.dom a h), fun a b l h1 h2 => w.inj a b l (in_loc.mp h1) (in_loc.mp h2), fun a l h => w.bnd a l (in_loc.mp h), fun l o h => ?_⟩, fun a h => ?_, le⟩
  · obtain ⟨a, h1, h2⟩ := w.sto l o h
    exact ⟨a, in_loc.mpr h1, h2.mono le rfl⟩
  · have := nt a
    revert h this
    unfold inTg
    cases tg a with
    | none => exact fun z => nomatch z
    | some t => cases t <;> simp
/-- back in the caller -/
theorem out_tg {K : PySem.W.Frag} {H H' : Hp} {tg tg' : TF} {st : Sto} (w : Wf K H tg st) (nt : NoTmp tg) (e : ExtS H (inTg tg) H' tg') :
    Ext H tg H' (outTg tg tg') ∧ ∀ st', Wf K H' tg' st' → Wf K H' (outTg tg tg') st' ∧ ∀ v r, RX K H' tg' v r → RX K H' (outTg tg tg') v r := by
  have slot : ∀ a i, tg a = some (.slot i) → tg' a = some .outer ∧ H' a ≠ none := fun a i h => by
    have h1 : inTg tg a = some .outer := in_out.mpr (.inr ⟨i, h⟩)
    cases ha : H a with
    | none => rw [w.dom a ha] at h; cases h
    | some o =>
      obtain ⟨h2, h3⟩ := e.keep a o ha (.inr h1)
      exact ⟨h3.trans h1, by rw [h2]; exact fun z => nomatch z⟩
  have oslot : ∀ a i, tg a = some (.slot i) → outTg tg tg' a = some (.slot i) := fun a i h => by
    unfold outTg
    rw [if_pos (isSl_iff.mpr ⟨i, h⟩)]
    exact h
  have oelse : ∀ a, (∀ i, tg a ≠ some (.slot i)) → (∀ i, tg' a ≠ some (.slot i)) → outTg tg tg' a = tg' a := fun a h h' => by
    unfold outTg
    rw [if_neg (fun z => by obtain ⟨i, z⟩ := isSl_iff.mp z; exact h i z), if_neg (fun z => by obtain ⟨i, z⟩ := isSl_iff.mp z; exact h' i z)]
  have inv : ∀ a t, outTg tg tg' a = some t → (∃ i, t = .slot i ∧ tg a = some (.slot i)) ∨ ((∀ i, tg a ≠ some (.slot i)) ∧ (∀ i, t ≠ .slot i) ∧ tg' a = some t) := fun a t h => by
    unfold outTg at h
    by_cases h1 : isSl (tg a) = true
    · rw [if_pos h1] at h
      obtain ⟨i, h1⟩ := isSl_iff.mp h1
      rw [h1] at h
      cases h
      exact .inl ⟨i, rfl, h1⟩
    · rw [if_neg h1] at h
      by_cases h2 : isSl (tg' a) = true
      · rw [if_pos h2] at h; cases h
      · rw [if_neg h2] at h
        exact .inr ⟨fun i z => h1 (isSl_iff.mpr ⟨i, z⟩), fun i z => h2 (isSl_iff.mpr ⟨i, by rw [h, z]⟩), h⟩
  have none_of : ∀ a, tg' a = none → outTg tg tg' a = none := fun a h => by
    rw [oelse a (fun i z => by rw [(slot a i z).1] at h; cases h) (fun i z => by rw [h] at z; cases z)]; exact h
  have loc_of : ∀ a l, tg' a = some (.loc l) → outTg tg tg' a = some (.loc l) := fun a l h => by
    rw [oelse a (fun i z => by rw [(slot a i z).1] at h; cases h) (fun i z => by rw [h] at z; cases z)]; exact h
  have le : Le H' tg' H' (outTg tg tg') := ⟨fun a o h t => ⟨h, none_of a t⟩, loc_of⟩
  refine ⟨⟨fun a o h t => ?_, fun a l h => ?_, fun a i h => ?_, fun a h => ?_⟩, fun st' w' => ⟨⟨fun a h => ?_, fun a b l h1 h2 => ?_, fun a l h => ?_, fun l o h => ?_⟩, fun v r rx => ?_⟩⟩
  · cases q : tg a with
    | none =>
      obtain ⟨h1, h2⟩ := e.keep a o h (.inl (in_none.mpr q))
      exact ⟨h1, none_of a (h2.trans (in_none.mpr q))⟩
    | some u =>
      cases u with
      | tmp => exact absurd q (nt a)
      | loc l => exact absurd q (t l)
      | slot i =>
        obtain ⟨h1, h2⟩ := e.keep a o h (.inr (in_out.mpr (.inr ⟨i, q⟩)))
        exact ⟨h1, oslot a i q⟩
      | outer =>
        have z := in_out.mpr (.inl q)
        obtain ⟨h1, h2⟩ := e.keep a o h (.inr z)
        refine ⟨h1, ?_⟩
        rw [oelse a (fun i z => by rw [q] at z; cases z) (fun i y => by rw [h2, z] at y; cases y), h2, z]
  · obtain ⟨h1, h2⟩ := e.loc a l (in_loc.mpr h)
    exact ⟨loc_of a l h1, h2⟩
  · rcases inv a _ h with ⟨j, e1, e2⟩ | ⟨_, e1, _⟩
    · cases e1; exact e2
    · exact absurd rfl (e1 i)
  · rcases inv a _ h with ⟨j, e1, e2⟩ | ⟨h1, _, e1⟩
    · cases e1
    · rcases in_out.mp (e.out a e1) with z | ⟨i, z⟩
      · exact z
      · exact absurd z (h1 i)
  · cases q : outTg tg tg' a with
    | none => rfl
    | some t =>
      rcases inv a t q with ⟨j, e1, e2⟩ | ⟨_, _, e1⟩
      · exact absurd h (slot a j e2).2
      · rw [w'.dom a h] at e1; cases e1
  · rcases inv a _ h1 with ⟨j, e1, e2⟩ | ⟨_, _, e1⟩
    · cases e1
    · rcases inv b _ h2 with ⟨j, e2, e3⟩ | ⟨_, _, e2⟩
      · cases e2
      · exact w'.inj a b l e1 e2
  · rcases inv a _ h with ⟨j, e1, e2⟩ | ⟨_, _, e1⟩
    · cases e1
    · exact w'.bnd a l e1
  · obtain ⟨a, h1, h2⟩ := w'.sto l o h
    exact ⟨a, loc_of a l h1, h2.mono le rfl⟩
  · obtain ⟨d, fr⟩ := r
    have tmp_of : ∀ a, outTg tg tg' a = some .tmp → tg' a = some .tmp := fun a h => by
      rcases inv a _ h with ⟨j, e1, e2⟩ | ⟨_, _, e1⟩
      · cases e1
      · exact e1
    cases fr with
    | false => exact ⟨fun a h => rx.1 a (tmp_of a h), rx.2.mono le⟩
    | true =>
      obtain ⟨a, o, rfl, t, u, ro, ed⟩ := rx
      refine ⟨a, o, rfl, ?_, fun b hb => u b (tmp_of b hb), ro.mono le rfl, ed⟩
      rw [oelse a (fun i z => by rw [(slot a i z).1] at t; cases t) (fun i z => by rw [t] at z; cases z)]
      exact t
/-! ### each def -/
theorem get_un : ∀ (n i : Nat), get (List.replicate n Sl.un) i = .un
  | 0, i => by cases i <;> rfl
  | n + 1, 0 => rfl
  | n + 1, i + 1 => get_un n i
theorem get_app : ∀ (ds : List D) (n i : Nat), get (ds.map Sl.v ++ List.replicate n Sl.un) i = match ds[i]? with | some d => .v d | none => .un
  | [], n, i => by rw [List.map_nil, List.nil_append, get_un]; simp
  | d :: ds, n, 0 => rfl
  | d :: ds, n, i + 1 => by
    have := get_app ds n i
    show get (ds.map Sl.v ++ List.replicate n Sl.un) i = _
    rw [this]
    simp
theorem get_start (nl : Nat) (ds : List D) (i : Nat) : get (Ev.start nl ds) i = match ds[i]? with | some d => .v d | none => .un := get_app ds _ i
theorem start_R {K : PySem.W.Frag} {H : Hp} {tg : TF} {N : List Str} {nl : Nat} : ∀ {vs : List V} {ds : List D}, RVs K H tg vs ds → RS' K H tg (Ev.start nl ds) (L2.start N vs) := by
  intro vs ds r i
  rw [get_start]
  cases h : ds[i]? with
  | none => trivial
  | some d =>
    obtain ⟨v, h1, h2⟩ := r.get h
    refine ⟨v, ?_, h2⟩
    have hi : i < vs.length := (List.getElem?_eq_some_iff.mp h1).1
    unfold L2.start
    rw [List.getElem?_append_left (by rw [List.length_map]; exact hi), List.getElem?_map, h1]
    rfl
section
variable {P : Program} {w : World} {K : PySem.W.Frag} {mg : Str → Option Value} {base : Heap}
theorem FF_len {m : Md} {n f : Nat} {dc : DefC} (hd : m.defs[f]? = some dc) {ds : List D} {st st' : Sto} {r : D × Bool} (h : FF m.Δ m.Γ n f ds st = .ok r st') : ds.length = dc.d.np := by
  cases n with
  | zero => cases h
  | succ n =>
    have hD : m.Δ f = some dc.d := by unfold Md.Δ; rw [hd]; rfl
    have h : (match m.Δ f with | some d => evD (FF m.Δ m.Γ n) m.Γ d ds st | none => .bad) = .ok r st' := h
    rw [hD] at h
    have h : (if ds.length = dc.d.np then (evS (FF m.Δ m.Γ n) m.Γ dc.d.body (Ev.start dc.d.nl ds) st).bind fun r st => (match r.1 with
      | .nx => .ok (.non, false) st
      | .rt d b => .ok (d, b) st
      | _ => .bad) else .bad) = .ok r st' := h
    by_cases e : ds.length = dc.d.np
    · exact e
    · rw [if_neg e] at h; cases h
theorem fnok {m : Md} (ok : m.defs.all m.ok1 = true) (fc : MdF m K mg) : ∀ (n f : Nat) (dc : DefC), m.defs[f]? = some dc → ∀ (a : Addr) (fd : FuncData), mg dc.name = some (.ref a) →
    FunD K dc.name dc.name (defArgs dc.st) (defBody dc.st) (defScope dc.st) [] [] a fd → FnOk P w K mg base CX0 n a fd dc.ps (spM K (FF m.Δ m.Γ n f) dc.ps.length) := by
  intro n
  induction n with
  | zero =>
    intro f dc hd a fd ha Fd
    refine ⟨fun vs H Q E h => h.1, fun A outer s H args us vs Q E hr e0 hb hv h => ?_⟩
    obtain ⟨_, tg, st, ds, r, st', _, _, _, h, _⟩ := h
    cases h
  | succ n ih =>
    intro f dc hd a fd ha Fd
    have ok1 : m.ok1 dc = true := List.all_eq_true.mp ok dc (List.mem_of_getElem? hd)
    unfold Md.ok1 at ok1
    rw [Bool.and_eq_true] at ok1
    obtain ⟨hchk, hsc⟩ := ok1
    have S := scope_of hsc
    have hps := DefC.ps_len hsc
    refine Fd.ok S (fun vs H Q E h => h.1) fun cdv A outer s H vs Q E hr h => ?_
    obtain ⟨hl, tg, st, ds, r, st', w0, nt, rs, he, k⟩ := h
    refine ⟨tmS K (evS (FF m.Δ m.Γ n) m.Γ dc.d.body), ?_, ?_⟩
    · have G : GoodS (cxOf CX0 P w K mg base dc.N dc.name (defScope dc.st) a cdv A outer s H E).nox (m.cc dc) (FF m.Δ m.Γ n) m.Γ := by
        refine ⟨{ nm := rfl, nd := S.nd, calm := rfl, vis := fun x h => isVis_of h, loc := fun x h => ⟨isLoc_of h, .inl rfl⟩, glo := fun x h => isGlo_of h, cf := fun x h => h, rm := ⟨n, hr⟩, un := ?_, bl := fc.bl, gls := fun g x h => ?_, fns := fun f' x h => ?_ }, rfl, S.kind, PassesOwn.never⟩
        · have h2 := hr.un
          show (A.deeper (envOfC dc.name (defScope dc.st) s.heap.objs.size a cdv)).units + 65 < cLine
          omega
        · obtain ⟨p, h1, rfl⟩ := Option.map_eq_some_iff.mp (show (m.gs[g]?).map (·.1) = some x from h)
          obtain ⟨u, v, h2, h3, h4⟩ := fc.gls g p h1
          refine ⟨u, v, h2, h3, fun H tg => ?_⟩
          have : m.Γ g = p.2.d := by unfold Md.Γ; rw [h1]
          rw [this]
          exact h4 H tg
        · obtain ⟨dc', h1, rfl⟩ := Option.map_eq_some_iff.mp (show (m.defs[f']?).map (·.name) = some x from h)
          obtain ⟨a', fd', h2, h3⟩ := fc.defs f' dc' h1
          have hsc' : scopeB dc' = true := by
            have := List.all_eq_true.mp ok dc' (List.mem_of_getElem? h1)
            unfold Md.ok1 at this
            rw [Bool.and_eq_true] at this
            exact this.2
          exact ⟨a', fd', dc'.ps, n, h2, ih f' dc' h1 a' fd' h2 h3, hr, h3.kp, h3.bindsN (fc.bd f' dc' h1), fun ds st r st' h => by rw [FF_len h1 h, DefC.ps_len hsc']⟩
      exact PSs.nox ((sndS dc.d.body).blk _ _ _ G hchk)
    · have hlen := FF_len hd he
      have hD : m.Δ f = some dc.d := by unfold Md.Δ; rw [hd]; rfl
      have he : (match m.Δ f with | some d => evD (FF m.Δ m.Γ n) m.Γ d ds st | none => .bad) = .ok r st' := he
      rw [hD] at he
      have he : (if ds.length = dc.d.np then (evS (FF m.Δ m.Γ n) m.Γ dc.d.body (Ev.start dc.d.nl ds) st).bind fun r st => (match r.1 with
        | .nx => .ok (.non, false) st
        | .rt d b => .ok (d, b) st
        | _ => .bad) else .bad) = .ok r st' := he
      rw [if_pos hlen] at he
      obtain ⟨⟨fl, ρ'⟩, st1, h1, h2⟩ := bind_ok he
      obtain ⟨wi, ni, le⟩ := in_wf w0 nt
      refine ⟨inTg tg, Ev.start dc.d.nl ds, st, fl, ρ', st1, ⟨wi, ni, start_R (rs.mono le)⟩, h1, ?_⟩
      cases fl with
      | nx =>
        cases h2
        intro tg' σ' H' ex s'
        obtain ⟨e1, e2⟩ := out_tg w0 nt ex
        obtain ⟨w2, rx⟩ := e2 _ s'.wf
        exact k _ _ H' e1 w2 (rx .non (.non, false) ⟨s'.nt, .non⟩)
      | bk => cases h2
      | ct => cases h2
      | rt d b =>
        cases h2
        intro tg' v H' ex w' rx
        obtain ⟨e1, e2⟩ := out_tg w0 nt ex
        obtain ⟨w2, rx'⟩ := e2 _ w'
        exact k _ _ H' e1 w2 (rx' v (d, b) rx)
end
end Ev
set_option Elab.async false
set_option linter.all false
set_option maxRecDepth 100000
set_option maxHeartbeats 1000000
/-! The head: a module's facts, a law's end. -/
namespace Ev
open PySem PySem.Spec PyProof.Rows L2
def gOk (K : PySem.W.Frag) (p : Str × Gv) : Bool := match p.2 with
  | .int i => (He.Fa.int p.1 i).ok K
  | .str z => (He.Fa.str p.1 z).ok K
  | .tup l => (He.Fa.glo p.1).ok K && He.tupB K p.1 (l.map He.Dv.str)
def DefC.dd (d : DefC) : He.DefD := ⟨(d.name, none), d.name, d.name, defArgs d.st, defBody d.st, defScope d.st, [], []⟩
def obE (m : Md) (K : PySem.W.Frag) : He.AlD := ((m.defs.all fun d => (He.Fa.glo d.name).ok K && d.dd.ok K) && (bnames.all (fun x => (He.Fa.free x).ok K) && m.gs.all (gOk K)), m.defs.map fun d => He.fnW K d.dd.at_)
def valE (m : Md) : He.AlD := (true, m.defs.map fun d => d.dd.val)
def SaysE (m : Md) (K : PySem.W.Frag) : Prop := obE m K = valE m
def obsEG (n : Nat) (m : Md) (g : Addr → Option Obj) : He.AlD := obE m (He.frG g (He.asD g n))
def hookE (n : Nat) (m : Md) : PySem.W.Hook where
  α := He.AlD
  obs := fun s => obsEG n m s.heap.get?
  val := fun _ => valE m
  says := fun _ h => ∃ K : PySem.W.Frag, K.In h ∧ SaysE m K
  of := fun _ _ e => ⟨_, He.frG_in, e⟩
  keeps := fun _ _ _ ⟨K, hK, c⟩ k => ⟨K, PySem.W.Frag.In.keeps hK k, c⟩
theorem obsEG_eq {n : Nat} {m : Md} {g : Addr → Option Obj} {s : Shared} (h : ∀ a, g a = s.heap.get? a) : obsEG n m g = (hookE n m).obs s := by
  have e : g = s.heap.get? := funext h
  rw [e] <;> rfl
theorem strs_rv {K : PySem.W.Frag} {H : Hp} {tg : TF} : ∀ l : List Str, RVs K H tg ((l.map He.Dv.str).map (He.Dv.v K)) (l.map D.str)
  | [] => .nil
  | x :: l => .cons (.str x) (strs_rv l)
theorem md_facts {m : Md} {K : PySem.W.Frag} {h : Heap} {mg : Str → Option Value} (X : K.In h) (G : h.Ns mainGlobals mg) (c : SaysE m K) (bd : ∀ (f : Nat) (dc : DefC), m.defs[f]? = some dc → Bd dc) : MdF m K mg := by
  have c1 : ((m.defs.all fun d => (He.Fa.glo d.name).ok K && d.dd.ok K) && (bnames.all (fun x => (He.Fa.free x).ok K) && m.gs.all (gOk K))) = true := congrArg (fun z : He.AlD => z.1) c
  have c2 : (m.defs.map fun d => He.fnW K d.dd.at_) = m.defs.map fun d => d.dd.val := congrArg (fun z : He.AlD => z.2) c
  simp only [Bool.and_eq_true, List.all_eq_true] at c1
  obtain ⟨c3, c4, c5⟩ := c1
  refine ⟨fun f dc hd => ?_, fun x hx => He.free_ok X G (c4 x hx), fun g p hg => ?_, bd⟩
  · obtain ⟨h1, h2⟩ := c3 dc (List.mem_of_getElem? hd)
    have e2 : (m.defs.map fun d => He.fnW K d.dd.at_)[f]? = (m.defs.map fun d => d.dd.val)[f]? := by rw [c2]
    rw [List.getElem?_map, List.getElem?_map, hd] at e2
    obtain ⟨fd, F⟩ := He.DefD.funD (d := dc.dd) (Option.some.inj e2) h2
    exact ⟨_, fd, He.glo_ok X G h1, F⟩
  · have hp := c5 p (List.mem_of_getElem? hg)
    obtain ⟨x, gv⟩ := p
    cases gv with
    | int i =>
      obtain ⟨t, ht⟩ := He.int_ok X G (show (He.Fa.int x i).ok K = true from hp)
      exact ⟨_, .int i, ht, ⟨t, rfl⟩, fun H tg => .int i⟩
    | str z =>
      obtain ⟨t, ht⟩ := He.str_ok X G (show (He.Fa.str x z).ok K = true from hp)
      exact ⟨_, .str z, ht, ⟨t, rfl⟩, fun H tg => .str z⟩
    | tup l =>
      have hp : ((He.Fa.glo x).ok K && He.tupB K x (l.map He.Dv.str)) = true := hp
      rw [Bool.and_eq_true] at hp
      exact ⟨_, .ref (He.ga K x), He.glo_ok X G hp.1, rfl, fun H tg => .kt (fun H' => He.tupB_ok hp.2 H') (strs_rv l)⟩
theorem scr_R {K : PySem.W.Frag} {H : Hp} {a : Addr} {ns : List Int} (hO : Only H) (hS : SqL K H a (ns.map V.int)) : RV K H (fun _ => none) (.ref a) (.scr ns) := by
  refine .scr ?_
  rcases hS with (h | ⟨o, h⟩) | h
  · rcases hO a with z | ⟨o, xs, z⟩ <;> (rw [z] at h; cases h)
  · exact .inl ⟨o, h, rfl⟩
  · exact .inr fun H' => .inr h
/-- a law's end: its plain meaning answers True -/
theorem law_walk {l : PySem.W.OpenLaw} {n k f : Nat} {q : Program} {loose : List Str} {XP : (Str → Option Value) → Heap → Prop} {d : DefRec} {m : Md} {dc : DefC} (hn : l.most = some n) (hn2 : n ≤ sizeLine) (hdf : d.params.defaults = []) (hr : Room k callerA)
    (hd : m.defs[f]? = some dc) (hnm : d.name = dc.name) (hps : dc.ps = [Str.ofString "script"]) (ok : m.defs.all m.ok1 = true) (bd : ∀ (f : Nat) (dc : DefC), m.defs[f]? = some dc → Bd dc)
    (plain : ∀ ns : List Int, ns.length ≤ n → ∃ b st', FF m.Δ m.Γ k f [.scr ns] [] = .ok (.bl true, b) st') :
    PySem.W.WalkO q loose XP (hookE 4 m).says l.row.toRowW d [] (fun f vs => PySem.call f vs) := by
  refine L2.walk_ofE (l := l) (n := n) (k := k) (x := Str.ofString "script") (CX := L2.CX0) hn hn2 hdf hr ?_ (fun _ _ _ _ z => z)
  intro w mg fa h Y G hmg
  obtain ⟨K, KX, c⟩ := Y
  have fc := md_facts KX G c bd
  obtain ⟨a, fd, ha, Fd⟩ := fc.defs f dc hd
  rw [hnm, ha] at hmg
  cases hmg
  refine ⟨K, fd, spM K (FF m.Δ m.Γ k f) dc.ps.length, KX, fun s u => ?_, fun H b ns hl hO hS => ?_, fun base _ _ => ?_⟩
  · have := Fd.bindsA (fc.bd f dc hd) s [u] (by rw [hps]; rfl)
    rw [hps] at this
    exact this
  · obtain ⟨bb, st', hp⟩ := plain ns hl
    refine ⟨by rw [hps]; rfl, fun _ => none, [], [.scr ns], (.bl true, bb), st', ⟨fun _ _ => rfl, fun _ _ _ h => (by cases h), fun _ _ h => (by cases h), fun _ _ h => (by cases h)⟩, fun _ h => (by cases h), .cons (scr_R hO hS) .nil, hp, fun tg' v H' _ _ rx => ?_⟩
    cases bb with
    | false =>
      have r := rx.2
      cases r
      rfl
    | true =>
      obtain ⟨_, o, _, _, _, _, e⟩ := rx
      cases o <;> cases e
  · have := fnok (P := l.prog) (w := w) (base := base) ok fc k f dc hd _ fd ha Fd
    rw [← hps]
    exact this
end Ev
set_option Elab.async false
set_option linter.all false
set_option maxRecDepth 100000
set_option maxHeartbeats 1000000
/-! The plain law's tools: what a text does, by what it is to reach. -/
namespace Ev
open PySem
def OkP {α : Type} (r : Res α) (P : α → Sto → Prop) : Prop := match r with
  | .ok a st => P a st
  | .bad => False
/-- a structure, so that no unifier opens it and runs the machine. -/
structure Ok {α : Type} (r : Res α) (P : α → Sto → Prop) : Prop where
  mk ::
  p : OkP r P
theorem Ok_iff {α : Type} (r : Res α) (P : α → Sto → Prop) : Ok r P = OkP r P := propext ⟨fun h => h.p, fun h => ⟨h⟩⟩
@[simp] theorem Ok_ok {α : Type} (a : α) (st : Sto) (P : α → Sto → Prop) : Ok (.ok a st) P = P a st := Ok_iff _ _
@[simp] theorem Ok_bad {α : Type} (P : α → Sto → Prop) : Ok (.bad : Res α) P = False := Ok_iff _ _
@[simp] theorem Ok_bind {α β : Type} (r : Res α) (f : α → Sto → Res β) (P : β → Sto → Prop) : Ok (r.bind f) P = Ok r fun a st => Ok (f a st) P := by
  cases r with
  | ok a st => exact (Ok_ok a st fun a st => Ok (f a st) P).symm
  | bad => rw [Ok_bad]; exact Ok_bad P
@[simp] theorem bind_ok' {α β : Type} (a : α) (st : Sto) (f : α → Sto → Res β) : (Res.ok a st).bind f = f a st := rfl
@[simp] theorem bind_bad {α β : Type} (f : α → Sto → Res β) : (Res.bad : Res α).bind f = .bad := rfl
@[simp] theorem lift_some {α : Type} (a : α) (st : Sto) : lift (some a) st = .ok a st := rfl
@[simp] theorem lift_none {α : Type} (st : Sto) : lift (none : Option α) st = .bad := rfl
@[simp] theorem Ok_ite {α : Type} (c : Prop) [Decidable c] (a b : Res α) (P : α → Sto → Prop) : Ok (if c then a else b) P = if c then Ok a P else Ok b P := by split <;> rfl
theorem Ok.mono {α : Type} {r : Res α} {P Q : α → Sto → Prop} (h : Ok r P) (m : ∀ a st, P a st → Q a st) : Ok r Q := by
  cases r with
  | ok a st => exact ⟨m a st h.p⟩
  | bad => exact h.p.elim
theorem Ok.out {α : Type} {r : Res α} {P : α → Sto → Prop} (h : Ok r P) : ∃ a st, r = .ok a st ∧ P a st := by
  cases r with
  | ok a st => exact ⟨a, st, rfl, h.p⟩
  | bad => exact h.p.elim
theorem Ok_eq {α : Type} {r : Res α} {a : α} {st : Sto} (h : r = .ok a st) (P : α → Sto → Prop) : Ok r P = P a st := by rw [h]; exact Ok_ok a st P
/-! ### names -/
@[simp] theorem get_zero (s : Sl) (r : Rho) : get (s :: r) 0 = s := rfl
@[simp] theorem get_succ (s : Sl) (r : Rho) (i : Nat) : get (s :: r) (i + 1) = get r i := rfl
@[simp] theorem put_zero (s x : Sl) (r : Rho) : put (x :: r) 0 s = s :: r := rfl
@[simp] theorem put_succ (s x : Sl) (r : Rho) (i : Nat) : put (x :: r) (i + 1) s = x :: put r i s := rfl
section
variable (F : Nat → List D → Sto → Res (D × Bool)) (Γ : Nat → D) (ρ : Rho) (st : Sto)
@[simp] theorem e_cint (i : Int) : evE F Γ (.cint i) ρ st = .ok (.int i) st := rfl
@[simp] theorem e_cstr (i : Str) : evE F Γ (.cstr i) ρ st = .ok (.str i) st := rfl
@[simp] theorem e_cbl (i : Bool) : evE F Γ (.cbl i) ρ st = .ok (.bl i) st := rfl
@[simp] theorem e_cnon : evE F Γ .cnon ρ st = .ok .non st := rfl
@[simp] theorem e_var (i : Nat) : evE F Γ (.var i) ρ st = (match get ρ i with | .v d => .ok d st | _ => .bad) := rfl
@[simp] theorem e_bor (i : Nat) : evE F Γ (.bor i) ρ st = (match get ρ i with | .v d => .ok d st | .own o => .ok o.toD st | .un => .bad) := rfl
@[simp] theorem e_own (i : Nat) : evE F Γ (.own i) ρ st = (match get ρ i with | .own o => .ok o.toD st | _ => .bad) := rfl
@[simp] theorem e_glob (g : Nat) : evE F Γ (.glob g) ρ st = .ok (Γ g) st := rfl
@[simp] theorem e_bin (op : Bop) (a b : Ex) : evE F Γ (.bin op a b) ρ st = (evE F Γ a ρ st).bind fun x st => (evE F Γ b ρ st).bind fun y st => lift (binD op x y) st := rfl
@[simp] theorem e_neg (a : Ex) : evE F Γ (.neg a) ρ st = (evE F Γ a ρ st).bind fun x st => lift ((asI x).map fun i => .int (-i)) st := rfl
@[simp] theorem e_not (a : Ex) : evE F Γ (.not a) ρ st = (evE F Γ a ρ st).bind fun x st => lift ((asB x).map fun b => .bl (!b)) st := rfl
@[simp] theorem e_cmp (op : Cop) (a b : Ex) : evE F Γ (.cmp op a b) ρ st = (evE F Γ a ρ st).bind fun x st => (evE F Γ b ρ st).bind fun y st => lift ((cmpD op x y).map .bl) st := rfl
@[simp] theorem e_chain (p q : Cop) (a b c : Ex) : evE F Γ (.chain p q a b c) ρ st = (evE F Γ a ρ st).bind fun x st => (evE F Γ b ρ st).bind fun y st => (lift (cmpD p x y) st).bind fun r st =>
      if r then (evE F Γ c ρ st).bind fun z st => lift ((cmpD q y z).map .bl) st else .ok (.bl false) st := rfl
@[simp] theorem e_chain3 (p q s : Cop) (a b c d : Ex) : evE F Γ (.chain3 p q s a b c d) ρ st = (evE F Γ a ρ st).bind fun x st => (evE F Γ b ρ st).bind fun y st => (lift (cmpD p x y) st).bind fun r st =>
      if r then (evE F Γ c ρ st).bind fun z st => (lift (cmpD q y z) st).bind fun r2 st => if r2 then (evE F Γ d ρ st).bind fun w st => lift ((cmpD s z w).map .bl) st else .ok (.bl false) st else .ok (.bl false) st := rfl
@[simp] theorem e_lvals (a : Ex) : evE F Γ (.lvals a) ρ st = (evE F Γ a ρ st).bind fun x st => (match x with
      | .dct false kvs => .ok (.lst (kvs.map (·.2))) st
      | _ => .bad) := rfl
@[simp] theorem i_items (a : Ex) : evI F Γ (.items a) ρ st = (evE F Γ a ρ st).bind fun x st => (match x with
      | .dct false kvs => .ok (kvs.map fun p => .tup [p.1, p.2]) st
      | _ => .bad) := rfl
@[simp] theorem e_iscN (n : Bool) (a : Ex) : evE F Γ (.isc n a .non) ρ st = (evE F Γ a ρ st).bind fun x st => .ok (.bl (n != (match x with | .non => true | _ => false))) st := rfl
@[simp] theorem e_iscB (n b : Bool) (a : Ex) : evE F Γ (.isc n a (.bl b)) ρ st = (evE F Γ a ρ st).bind fun x st => (match x with | .bl b' => .ok (.bl (n != (b' == b))) st | _ => .bad) := rfl
@[simp] theorem e_and (es : Ex) : evE F Γ (.and es) ρ st = evAnd F Γ es ρ st := rfl
@[simp] theorem e_or (es : Ex) : evE F Γ (.or es) ρ st = evOr F Γ es ρ st := rfl
@[simp] theorem e_ife (t a b : Ex) : evE F Γ (.ife t a b) ρ st = (evE F Γ t ρ st).bind fun x st => (lift (asB x) st).bind fun c st => if c then evE F Γ a ρ st else evE F Γ b ρ st := rfl
@[simp] theorem e_tup (es : Ex) : evE F Γ (.tup es) ρ st = (evA F Γ es ρ st).bind fun ds st => if ds.length ≤ LIM then .ok (.tup ds) st else .bad := rfl
@[simp] theorem e_list (es : Ex) : evE F Γ (.list es) ρ st = (evA F Γ es ρ st).bind fun ds st => if ds.length ≤ LIM then .ok (.lst ds) st else .bad := rfl
@[simp] theorem e_dict (k : Bool) (ps : Ex) : evE F Γ (.dict k ps) ρ st = (evA F Γ ps ρ st).bind fun ds st => (lift (dispD k ds) st).bind fun d st => .ok d st := rfl
@[simp] theorem e_ix (a i : Ex) : evE F Γ (.ix a i) ρ st = (evE F Γ a ρ st).bind fun x st => (evE F Γ i ρ st).bind fun y st => lift (atD x y) st := rfl
@[simp] theorem e_sl (a lo hi : Ex) : evE F Γ (.sl a lo hi) ρ st = (evE F Γ a ρ st).bind fun x st => (optI lo (evE F Γ lo ρ st) st).bind fun l st => (optI hi (evE F Γ hi ρ st) st).bind fun h st => lift (slD x l h) st := rfl
@[simp] theorem e_slr (a : Ex) : evE F Γ (.slr a) ρ st = (evE F Γ a ρ st).bind fun x st => lift (slrD x) st := rfl
@[simp] theorem e_ixr (i : Nat) (k : Ex) : evE F Γ (.ixr i k) ρ st = (match get ρ i with
    | .v (.ref l) => (evE F Γ k ρ st).bind fun y st => (lift st[l]? st).bind fun o st => lift (atD o.toD y) st
    | _ => .bad) := rfl
@[simp] theorem e_call (f : Nat) (es : Ex) : evE F Γ (.call f es) ρ st = (evA F Γ es ρ st).bind fun ds st => (F f ds st).bind fun r st => .ok r.1 st := rfl
@[simp] theorem e_bi (b : Bi) (es : Ex) : evE F Γ (.bi b es) ρ st = (evA F Γ es ρ st).bind fun ds st => lift (biD b ds) st := rfl
@[simp] theorem e_isi (a : Ex) (t : Ty) : evE F Γ (.isi a t) ρ st = (evE F Γ a ρ st).bind fun x st => lift ((isD t x).map .bl) st := rfl
/-- kept whole: a comprehension's, a loop's run -/
def lcS (F : Nat → List D → Sto → Res (D × Bool)) (Γ : Nat → D) (elt : Ex) (tg : Tg) (tests : Ex) (ρ : Rho) (xs : List D) (st : Sto) : Res D := if xs.length ≤ LIM then
      (lcL (fun d st => (lift (bindT tg d ρ) st).bind fun ρ' st => evTs F Γ tests ρ' st) (fun d st => (lift (bindT tg d ρ) st).bind fun ρ' st => evE F Γ elt ρ' st) xs st).bind fun ys st => .ok (.lst ys) st else .bad
def whlS (F : Nat → List D → Sto → Res (D × Bool)) (Γ : Nat → D) (t : Ex) (b : Stm) (ρ : Rho) (st : Sto) : RS := whlL (fun ρ st => (evE F Γ t ρ st).bind fun x st => lift (asB x) st) (fun ρ st => evS F Γ b ρ st) WF ρ st
def forS (F : Nat → List D → Sto → Res (D × Bool)) (Γ : Nat → D) (tg : Tg) (b : Stm) (xs : List D) (ρ : Rho) (st : Sto) : RS := forL (fun d ρ st => (lift (bindT tg d ρ) st).bind fun ρ' st => evS F Γ b ρ' st) xs ρ st
@[simp] theorem e_lcS (elt : Ex) (tg : Tg) (it tests : Ex) : evE F Γ (.lc elt tg it tests) ρ st = (evI F Γ it ρ st).bind fun xs st => lcS F Γ elt tg tests ρ xs st := rfl
theorem e_lc (elt : Ex) (tg : Tg) (it tests : Ex) : evE F Γ (.lc elt tg it tests) ρ st = (evI F Γ it ρ st).bind fun xs st => if xs.length ≤ LIM then
      (lcL (fun d st => (lift (bindT tg d ρ) st).bind fun ρ' st => evTs F Γ tests ρ' st) (fun d st => (lift (bindT tg d ρ) st).bind fun ρ' st => evE F Γ elt ρ' st) xs st).bind fun ys st => .ok (.lst ys) st else .bad := rfl
@[simp] theorem a_nil : evA F Γ .nil ρ st = .ok [] st := rfl
@[simp] theorem a_cons (e es : Ex) : evA F Γ (.cons e es) ρ st = (evE F Γ e ρ st).bind fun d st => (evA F Γ es ρ st).bind fun ds st => .ok (d :: ds) st := rfl
@[simp] theorem and_one (e : Ex) : evAnd F Γ (.cons e .nil) ρ st = evE F Γ e ρ st := rfl
@[simp] theorem and_two (e e' es : Ex) : evAnd F Γ (.cons e (.cons e' es)) ρ st = (evE F Γ e ρ st).bind fun x st => (lift (asB x) st).bind fun c st => if c then evAnd F Γ (.cons e' es) ρ st else .ok (.bl false) st := rfl
@[simp] theorem or_one (e : Ex) : evOr F Γ (.cons e .nil) ρ st = evE F Γ e ρ st := rfl
@[simp] theorem or_two (e e' es : Ex) : evOr F Γ (.cons e (.cons e' es)) ρ st = (evE F Γ e ρ st).bind fun x st => (lift (asB x) st).bind fun c st => if c then .ok (.bl true) st else evOr F Γ (.cons e' es) ρ st := rfl
@[simp] theorem ts_nil : evTs F Γ .nil ρ st = .ok true st := rfl
@[simp] theorem ts_cons (e es : Ex) : evTs F Γ (.cons e es) ρ st = (evE F Γ e ρ st).bind fun x st => (lift (asB x) st).bind fun c st => if c then evTs F Γ es ρ st else .ok false st := rfl
@[simp] theorem i_seq (a : Ex) : evI F Γ (.seq a) ρ st = (evE F Γ a ρ st).bind fun x st => lift (elemsK x) st := rfl
@[simp] theorem i_rng (es : Ex) : evI F Γ (.rng es) ρ st = (evA F Γ es ρ st).bind fun ds st => lift (rngD ds) st := rfl
@[simp] theorem i_enu (a : Ex) : evI F Γ (.enu a) ρ st = (evE F Γ a ρ st).bind fun x st => lift ((elems x).map (enuL 0)) st := rfl
@[simp] theorem i_zip (a b : Ex) : evI F Γ (.zip a b) ρ st = (evE F Γ a ρ st).bind fun x st => (evE F Γ b ρ st).bind fun y st => lift (zipD x y) st := rfl
@[simp] theorem x_call (f : Nat) (es : Ex) : evX F Γ (.call f es) ρ st = (evA F Γ es ρ st).bind fun ds st => F f ds st := rfl
theorem x_else (e : Ex) (h : ∀ f es, e ≠ .call f es) : evX F Γ e ρ st = (evE F Γ e ρ st).bind fun d st => .ok (d, frX e d) st := evX_def h ρ st
@[simp] theorem s_skip : evS F Γ .skip ρ st = .ok (.nx, ρ) st := rfl
@[simp] theorem s_seq (s t : Stm) : evS F Γ (.seq s t) ρ st = (evS F Γ s ρ st).bind fun r st => (match r.1 with
    | .nx => evS F Γ t r.2 st
    | f => .ok (f, r.2) st) := rfl
@[simp] theorem s_asg (i : Nat) (e : Ex) : evS F Γ (.asg i e) ρ st = (evE F Γ e ρ st).bind fun d st => .ok (.nx, put ρ i (.v d)) st := rfl
@[simp] theorem s_asgo (i : Nat) (e : Ex) : evS F Γ (.asgo i e) ρ st = (evX F Γ e ρ st).bind fun r st => (lift (slOf true r) st).bind fun s st => .ok (.nx, put ρ i s) st := rfl
@[simp] theorem s_tasg (is : List Nat) (e : Ex) : evS F Γ (.tasg is e) ρ st = (evE F Γ e ρ st).bind fun d st => (lift (bindT (.many is) d ρ) st).bind fun ρ' st => .ok (.nx, ρ') st := rfl
@[simp] theorem s_pasg (is : List Nat) (os : List Bool) (es : Ex) : evS F Γ (.pasg is os es) ρ st = (evP F Γ es os ρ st).bind fun ss st => (lift (putS ρ is ss) st).bind fun ρ' st => .ok (.nx, ρ') st := rfl
@[simp] theorem p_nil : evP F Γ .nil [] ρ st = .ok [] st := rfl
@[simp] theorem p_cons (e es : Ex) (b : Bool) (os : List Bool) : evP F Γ (.cons e es) (b :: os) ρ st = (evX F Γ e ρ st).bind fun r st => (lift (slOf b r) st).bind fun s st => (evP F Γ es os ρ st).bind fun ss st => .ok (s :: ss) st := rfl
@[simp] theorem s_fz (i : Nat) : evS F Γ (.fz i) ρ st = (match get ρ i with | .own o => .ok (.nx, put ρ i (.v o.toD)) st | _ => .bad) := rfl
@[simp] theorem s_shr (i : Nat) : evS F Γ (.shr i) ρ st = (match get ρ i with | .own o => .ok (.nx, put ρ i (.v (.ref st.length))) (st ++ [o]) | _ => .bad) := rfl
@[simp] theorem s_setix (i : Nat) (k e : Ex) : evS F Γ (.setix i k e) ρ st = (evE F Γ e ρ st).bind fun v st => (evE F Γ k ρ st).bind fun y st => (lift (obAt ρ st i) st).bind fun o st => (lift (setOb o y v) st).bind fun o' st => obPut ρ st i o' := rfl
@[simp] theorem s_app (i : Nat) (e : Ex) : evS F Γ (.app i e) ρ st = (match obAt ρ st i with
    | some (.lst _) => (evE F Γ e ρ st).bind fun v st => (lift (obAt ρ st i) st).bind fun o st => (match o with
      | .lst ds => if ds.length < LIM then obPut ρ st i (.lst (ds ++ [v])) else .bad
      | _ => .bad)
    | _ => .bad) := rfl
@[simp] theorem s_exp (e : Ex) : evS F Γ (.exp e) ρ st = (evE F Γ e ρ st).bind fun _ st => .ok (.nx, ρ) st := rfl
@[simp] theorem s_ite (t : Ex) (a b : Stm) : evS F Γ (.ite t a b) ρ st = (evE F Γ t ρ st).bind fun x st => (lift (asB x) st).bind fun c st => if c then evS F Γ a ρ st else evS F Γ b ρ st := rfl
@[simp] theorem s_whlS (t : Ex) (b : Stm) : evS F Γ (.whl t b) ρ st = whlS F Γ t b ρ st := rfl
@[simp] theorem s_forS (tg : Tg) (it : Ex) (b : Stm) : evS F Γ (.forin tg it b) ρ st = (evI F Γ it ρ st).bind fun xs st => forS F Γ tg b xs ρ st := rfl
theorem s_whl (t : Ex) (b : Stm) : evS F Γ (.whl t b) ρ st = whlL (fun ρ st => (evE F Γ t ρ st).bind fun x st => lift (asB x) st) (fun ρ st => evS F Γ b ρ st) WF ρ st := rfl
theorem s_forin (tg : Tg) (it : Ex) (b : Stm) : evS F Γ (.forin tg it b) ρ st = (evI F Γ it ρ st).bind fun xs st => forL (fun d ρ st => (lift (bindT tg d ρ) st).bind fun ρ' st => evS F Γ b ρ' st) xs ρ st := rfl
@[simp] theorem s_ret (e : Ex) : evS F Γ (.ret e) ρ st = (evX F Γ e ρ st).bind fun d st => .ok (.rt d.1 d.2, ρ) st := rfl
@[simp] theorem s_brk : evS F Γ .brk ρ st = .ok (.bk, ρ) st := rfl
@[simp] theorem s_cnt : evS F Γ .cnt ρ st = .ok (.ct, ρ) st := rfl
@[simp] theorem s_pass : evS F Γ .pass ρ st = .ok (.nx, ρ) st := rfl
@[simp] theorem s_never : evS F Γ .never ρ st = .bad := rfl
end
theorem FF_at {m : Md} {n f : Nat} {dc : DefC} (hd : m.defs[f]? = some dc) (ds : List D) (st : Sto) : FF m.Δ m.Γ (n + 1) f ds st = evD (FF m.Δ m.Γ n) m.Γ dc.d ds st := by
  have hD : m.Δ f = some dc.d := by unfold Md.Δ; rw [hd]; rfl
  show (match m.Δ f with | some d => evD (FF m.Δ m.Γ n) m.Γ d ds st | none => .bad) = _
  rw [hD]
end Ev
set_option Elab.async false
set_option linter.all false
set_option maxRecDepth 100000
set_option maxHeartbeats 1000000
/-! The plain law's tools: loops, texts, small facts. -/
namespace Ev
open PySem
theorem ofS_inj {a b : String} : Str.ofString a = Str.ofString b ↔ a = b := by
  refine ⟨fun h => ?_, fun h => by rw [h]⟩
  rw [Str.ofString_eq_toList, Str.ofString_eq_toList] at h
  have h1 : (a.toList.map Char.toNat).toArray = (b.toList.map Char.toNat).toArray := congrArg Str.cps h
  have h2 : a.toList.map Char.toNat = b.toList.map Char.toNat := by simpa using h1
  have inj : ∀ (xs ys : List Char), xs.map Char.toNat = ys.map Char.toNat → xs = ys := by
    intro xs
    induction xs with
    | nil => intro ys h; cases ys with
      | nil => rfl
      | cons _ _ => cases h
    | cons x xs ih => intro ys h; cases ys with
      | nil => cases h
      | cons y ys =>
        rw [List.map_cons, List.map_cons] at h
        have h3 := List.cons.inj h
        have : x = y := by
          have := h3.1
          exact Char.ext (UInt32.toNat_inj.mp this)
        rw [this, ih ys h3.2]
  have h3 := inj _ _ h2
  exact String.toList_inj.mp h3
@[simp] theorem ofS_eq (a b : String) : (Str.ofString a = Str.ofString b) = (a = b) := propext ofS_inj
@[simp] theorem ofS_beq (a b : String) : (Str.ofString a == Str.ofString b) = decide (a = b) := by
  by_cases h : a = b
  · subst h; simp
  · rw [decide_eq_false h]
    exact beq_eq_false_iff_ne.mpr (fun z => h (ofS_inj.mp z))
/-! ### comprehensions -/
theorem lcL_Ok {test : D → Sto → Res Bool} {elt : D → Sto → Res D} (I : List D → Sto → Prop) : ∀ (xs : List D) (acc : List D) (st : Sto), I acc st →
    (∀ x ∈ xs, ∀ acc st, I acc st → Ok (test x st) fun b st1 => if b = true then Ok (elt x st1) fun y st2 => I (acc ++ [y]) st2 else I acc st1) → Ok (lcL test elt xs st) fun ys st' => I (acc ++ ys) st'
  | [], acc, st, h, _ => by
    refine ⟨?_⟩
    show I (acc ++ []) st
    rw [List.append_nil]
    exact h
  | x :: xs, acc, st, h, hs => by
    have h1 := hs x (List.mem_cons_self ..) acc st h
    show Ok ((test x st).bind fun b st => if b then (elt x st).bind fun y st => (lcL test elt xs st).bind fun ys st => .ok (y :: ys) st else lcL test elt xs st) _
    rw [Ok_bind]
    refine h1.mono fun b st1 h2 => ?_
    cases b with
    | false => exact lcL_Ok I xs acc st1 h2 fun x hx => hs x (List.mem_cons_of_mem _ hx)
    | true =>
      simp only [if_true] at h2 ⊢
      rw [Ok_bind]
      refine h2.mono fun y st2 h3 => ?_
      rw [Ok_bind]
      refine (lcL_Ok I xs (acc ++ [y]) st2 h3 fun x hx => hs x (List.mem_cons_of_mem _ hx)).mono fun ys st3 h4 => ?_
      refine ⟨?_⟩
      show I (acc ++ (y :: ys)) st3
      have e : acc ++ (y :: ys) = acc ++ [y] ++ ys := by simp
      rw [e]
      exact h4
/-- .. with the place -/
theorem lcL_OkI {test : D → Sto → Res Bool} {elt : D → Sto → Res D} (I : Nat → List D → Sto → Prop) : ∀ (xs : List D) (i : Nat) (acc : List D) (st : Sto), I i acc st →
    (∀ j x acc st, xs[j]? = some x → I (i + j) acc st → Ok (test x st) fun b st1 => if b = true then Ok (elt x st1) fun y st2 => I (i + j + 1) (acc ++ [y]) st2 else I (i + j + 1) acc st1) → Ok (lcL test elt xs st) fun ys st' => I (i + xs.length) (acc ++ ys) st'
  | [], i, acc, st, h, _ => by
    refine ⟨?_⟩
    show I (i + 0) (acc ++ []) st
    rw [List.append_nil]
    exact h
  | x :: xs, i, acc, st, h, hs => by
    have h1 := hs 0 x acc st rfl h
    have next : ∀ j y acc st, xs[j]? = some y → I (i + 1 + j) acc st → Ok (test y st) fun b st1 => if b = true then Ok (elt y st1) fun z st2 => I (i + 1 + j + 1) (acc ++ [z]) st2 else I (i + 1 + j + 1) acc st1 := fun j y acc st hj hI => by
      have e : i + 1 + j = i + (j + 1) := by omega
      rw [e] at hI ⊢
      exact hs (j + 1) y acc st (by simpa using hj) hI
    have el : i + (x :: xs).length = i + 1 + xs.length := by rw [List.length_cons]; omega
    show Ok ((test x st).bind fun b st => if b then (elt x st).bind fun y st => (lcL test elt xs st).bind fun ys st => .ok (y :: ys) st else lcL test elt xs st) _
    rw [Ok_bind]
    refine h1.mono fun b st1 h2 => ?_
    cases b with
    | false =>
      refine (lcL_OkI I xs (i + 1) acc st1 h2 next).mono fun ys st3 h4 => ?_
      rw [el]; exact h4
    | true =>
      simp only [if_true] at h2 ⊢
      rw [Ok_bind]
      refine h2.mono fun y st2 h3 => ?_
      rw [Ok_bind]
      refine (lcL_OkI I xs (i + 1) (acc ++ [y]) st2 h3 next).mono fun ys st3 h4 => ?_
      refine ⟨?_⟩
      show I (i + (x :: xs).length) (acc ++ (y :: ys)) st3
      have e : acc ++ (y :: ys) = acc ++ [y] ++ ys := by simp
      rw [e, el]
      exact h4
/-- nothing in the store is touched -/
theorem lcL_pure {test : D → Sto → Res Bool} {elt : D → Sto → Res D} (p : D → Bool) (g : D → D) (st : Sto) : ∀ (xs : List D), (∀ x ∈ xs, test x st = .ok (p x) st) → (∀ x ∈ xs, p x = true → elt x st = .ok (g x) st) → lcL test elt xs st = .ok ((xs.filter p).map g) st
  | [], _, _ => rfl
  | x :: xs, h1, h2 => by
    show ((test x st).bind fun b st => if b then (elt x st).bind fun y st => (lcL test elt xs st).bind fun ys st => .ok (y :: ys) st else lcL test elt xs st) = _
    have ih := lcL_pure p g st xs (fun y hy => h1 y (List.mem_cons_of_mem _ hy)) fun y hy => h2 y (List.mem_cons_of_mem _ hy)
    rw [h1 x (List.mem_cons_self ..), bind_ok']
    cases hp : p x with
    | false =>
      rw [List.filter_cons_of_neg (by rw [hp]; exact Bool.false_ne_true)]
      exact ih
    | true =>
      rw [List.filter_cons_of_pos hp]
      simp only [if_true]
      rw [h2 x (List.mem_cons_self ..) hp, bind_ok', ih]
      rfl
/-! ### loops -/
theorem forL_Ok {step : D → Rho → Sto → RS} (I : Nat → Rho → Sto → Prop) (P : Fl × Rho → Sto → Prop) : ∀ (xs : List D) (i : Nat) (ρ : Rho) (st : Sto), I i ρ st →
    (∀ j d ρ st, xs[j]? = some d → I (i + j) ρ st → Ok (step d ρ st) fun r st' => match r.1 with
      | .nx => I (i + j + 1) r.2 st'
      | .ct => I (i + j + 1) r.2 st'
      | .bk => P (.nx, r.2) st'
      | .rt d b => P (.rt d b, r.2) st') → (∀ ρ st, I (i + xs.length) ρ st → P (.nx, ρ) st) → Ok (forL step xs ρ st) P
  | [], i, ρ, st, h, _, hd => ⟨hd ρ st h⟩
  | x :: xs, i, ρ, st, h, hs, hd => by
    show Ok ((step x ρ st).bind fun r st => match r.1 with
      | .nx => forL step xs r.2 st
      | .ct => forL step xs r.2 st
      | .bk => .ok (.nx, r.2) st
      | .rt d b => .ok (.rt d b, r.2) st) P
    rw [Ok_bind]
    refine (hs 0 x ρ st rfl h).mono fun r st' q => ?_
    have go : ∀ ρ' st', I (i + 0 + 1) ρ' st' → Ok (forL step xs ρ' st') P := fun ρ' st' h' => by
      refine forL_Ok I P xs (i + 1) ρ' st' h' (fun j d ρ st hj hI => ?_) fun ρ st hI => ?_
      · have e : i + 1 + j = i + (j + 1) := by omega
        rw [e] at hI ⊢
        exact hs (j + 1) d ρ st (by simpa using hj) hI
      · refine hd ρ st ?_
        rw [List.length_cons]
        have e : i + (xs.length + 1) = i + 1 + xs.length := by omega
        rw [e]
        exact hI
    obtain ⟨f, ρ'⟩ := r
    cases f with
    | nx => exact go ρ' st' q
    | ct => exact go ρ' st' q
    | bk => exact ⟨q⟩
    | rt d b => exact ⟨q⟩
theorem whlL_Ok {c : Rho → Sto → Res Bool} {b : Rho → Sto → RS} (I : Nat → Rho → Sto → Prop) (P : Fl × Rho → Sto → Prop)
    (hs : ∀ m ρ st, I m ρ st → Ok (c ρ st) fun t st1 => if t = true then Ok (b ρ st1) fun r st2 => match r.1 with
      | .nx => ∃ m', m' < m ∧ I m' r.2 st2
      | .ct => ∃ m', m' < m ∧ I m' r.2 st2
      | .bk => P (.nx, r.2) st2
      | .rt d b => P (.rt d b, r.2) st2
    else P (.nx, ρ) st1) : ∀ (n m : Nat) (ρ : Rho) (st : Sto), I m ρ st → m < n → Ok (whlL c b n ρ st) P
  | 0, m, _, _, _, h => absurd h (Nat.not_lt_zero m)
  | n + 1, m, ρ, st, hI, hm => by
    show Ok ((c ρ st).bind fun t st => if t then (b ρ st).bind fun r st => (match r.1 with
      | .nx => whlL c b n r.2 st
      | .ct => whlL c b n r.2 st
      | .bk => .ok (.nx, r.2) st
      | .rt d b => .ok (.rt d b, r.2) st)
    else .ok (.nx, ρ) st) P
    rw [Ok_bind]
    refine (hs m ρ st hI).mono fun t st1 q => ?_
    cases t with
    | false => exact ⟨q⟩
    | true =>
      simp only [if_true] at q ⊢
      rw [Ok_bind]
      refine q.mono fun r st2 q2 => ?_
      obtain ⟨f, ρ'⟩ := r
      cases f with
      | nx => obtain ⟨m', h1, h2⟩ := q2; exact whlL_Ok I P hs n m' ρ' st2 h2 (by omega)
      | ct => obtain ⟨m', h1, h2⟩ := q2; exact whlL_Ok I P hs n m' ρ' st2 h2 (by omega)
      | bk => exact ⟨q2⟩
      | rt d b => exact ⟨q2⟩
/-- .. of texts -/
theorem whlS_Ok {F : Nat → List D → Sto → Res (D × Bool)} {Γ : Nat → D} {t : Ex} {b : Stm} (I : Nat → Rho → Sto → Prop) (P : Fl × Rho → Sto → Prop)
    (hs : ∀ m ρ st, I m ρ st → Ok (evE F Γ t ρ st) fun x st1 => ∃ c, x = .bl c ∧ if c = true then Ok (evS F Γ b ρ st1) (fun r st2 => match r.1 with
      | .nx => ∃ m', m' < m ∧ I m' r.2 st2
      | .ct => ∃ m', m' < m ∧ I m' r.2 st2
      | .bk => P (.nx, r.2) st2
      | .rt d b => P (.rt d b, r.2) st2)
    else P (.nx, ρ) st1) (m : Nat) (ρ : Rho) (st : Sto) (hI : I m ρ st) (hm : m < WF) : Ok (whlS F Γ t b ρ st) P := by
  refine whlL_Ok I P (fun m ρ st h => ?_) WF m ρ st hI hm
  rw [Ok_bind]
  refine (hs m ρ st h).mono fun x st1 ⟨c, e, q⟩ => ?_
  subst e
  exact ⟨q⟩
theorem forS_Ok {F : Nat → List D → Sto → Res (D × Bool)} {Γ : Nat → D} {tg : Tg} {b : Stm} (I : Nat → Rho → Sto → Prop) (P : Fl × Rho → Sto → Prop) (xs : List D) (ρ : Rho) (st : Sto) (h : I 0 ρ st)
    (hs : ∀ j d ρ st, xs[j]? = some d → I j ρ st → ∃ ρ', bindT tg d ρ = some ρ' ∧ Ok (evS F Γ b ρ' st) fun r st' => match r.1 with
      | .nx => I (j + 1) r.2 st'
      | .ct => I (j + 1) r.2 st'
      | .bk => P (.nx, r.2) st'
      | .rt d b => P (.rt d b, r.2) st') (hd : ∀ ρ st, I xs.length ρ st → P (.nx, ρ) st) : Ok (forS F Γ tg b xs ρ st) P := by
  refine forL_Ok I P xs 0 ρ st h (fun j d ρ st hj hI => ?_) fun ρ st hI => hd ρ st (by rw [Nat.zero_add] at hI; exact hI)
  rw [Nat.zero_add] at hI ⊢
  obtain ⟨ρ', e, q⟩ := hs j d ρ st hj hI
  rw [Ok_bind, e, lift_some, Ok_ok]
  exact q
theorem lcS_Ok {F : Nat → List D → Sto → Res (D × Bool)} {Γ : Nat → D} {elt tests : Ex} {tg : Tg} {ρ : Rho} (I : Nat → List D → Sto → Prop) (xs : List D) (st : Sto) (hl : xs.length ≤ LIM) (h : I 0 [] st)
    (hs : ∀ j x acc st, xs[j]? = some x → I j acc st → ∃ ρ', bindT tg x ρ = some ρ' ∧ Ok (evTs F Γ tests ρ' st) fun b st1 => if b = true then Ok (evE F Γ elt ρ' st1) fun y st2 => I (j + 1) (acc ++ [y]) st2 else I (j + 1) acc st1)
    : Ok (lcS F Γ elt tg tests ρ xs st) fun d st' => ∃ ys, d = .lst ys ∧ I xs.length ys st' := by
  unfold lcS
  rw [if_pos hl, Ok_bind]
  refine (lcL_OkI I xs 0 [] st h fun j x acc st hj hI => ?_).mono fun ys st' q => ?_
  · rw [Nat.zero_add] at hI ⊢
    obtain ⟨ρ', e, q⟩ := hs j x acc st hj hI
    rw [Ok_bind, e, lift_some, Ok_ok]
    refine q.mono fun b st1 q => ?_
    cases b with
    | false => exact q
    | true =>
      simp only [if_true] at q ⊢
      rw [Ok_bind, lift_some, Ok_ok]
      exact q
  · rw [Nat.zero_add, List.nil_append] at q
    exact ⟨ys, rfl, q⟩
theorem lcS_pure {F : Nat → List D → Sto → Res (D × Bool)} {Γ : Nat → D} {elt tests : Ex} {tg : Tg} {ρ : Rho} (p : D → Bool) (g : D → D) (xs : List D) (st : Sto) (hl : xs.length ≤ LIM)
    (hs : ∀ x ∈ xs, ∃ ρ', bindT tg x ρ = some ρ' ∧ evTs F Γ tests ρ' st = .ok (p x) st ∧ (p x = true → evE F Γ elt ρ' st = .ok (g x) st)) : lcS F Γ elt tg tests ρ xs st = .ok (.lst ((xs.filter p).map g)) st := by
  unfold lcS
  rw [if_pos hl, lcL_pure p g st xs (fun x hx => ?_) (fun x hx hp => ?_)]
  · rfl
  · obtain ⟨ρ', e, h1, _⟩ := hs x hx
    rw [e, lift_some, bind_ok', h1]
  · obtain ⟨ρ', e, _, h2⟩ := hs x hx
    rw [e, lift_some, bind_ok', h2 hp]
/-- a def's end -/
def Fin (P : D × Bool → Sto → Prop) (r : Fl × Rho) (st : Sto) : Prop := match r.1 with
  | .nx => P (.non, false) st
  | .rt d b => P (d, b) st
  | _ => False
@[simp] theorem Fin_rt (P : D × Bool → Sto → Prop) (d : D) (b : Bool) (ρ : Rho) (st : Sto) : Fin P (.rt d b, ρ) st = P (d, b) st := rfl
@[simp] theorem Fin_nx (P : D × Bool → Sto → Prop) (ρ : Rho) (st : Sto) : Fin P (.nx, ρ) st = P (.non, false) st := rfl
theorem evD_Ok {F : Nat → List D → Sto → Res (D × Bool)} {Γ : Nat → D} {d : Df} {ds : List D} {st : Sto} {P : D × Bool → Sto → Prop} (hl : ds.length = d.np) (h : Ok (evS F Γ d.body (start d.nl ds) st) (Fin P)) : Ok (evD F Γ d ds st) P := by
  unfold evD
  rw [if_pos hl, Ok_bind]
  refine h.mono fun r st' q => ?_
  obtain ⟨f, ρ⟩ := r
  cases f with
  | nx => exact ⟨q⟩
  | rt d b => exact ⟨q⟩
  | bk => exact q.elim
  | ct => exact q.elim
theorem FF_Ok {m : Md} {n f : Nat} {dc : DefC} (hd : m.defs[f]? = some dc) {ds : List D} {st : Sto} {P : D × Bool → Sto → Prop} (hl : ds.length = dc.d.np) (h : Ok (evS (FF m.Δ m.Γ n) m.Γ dc.d.body (start dc.d.nl ds) st) (Fin P)) : Ok (FF m.Δ m.Γ (n + 1) f ds st) P := by
  rw [FF_at hd]
  exact evD_Ok hl h
/-! ### small facts -/
theorem big_of {i : Int} (h : i.natAbs < 2 ^ 64) : big i = true := decide_eq_true (Nat.lt_of_lt_of_le h (Nat.pow_le_pow_right (by decide) (by decide)))
@[simp] theorem Gv_int (i : Int) : Gv.d (.int i) = .int i := rfl
@[simp] theorem Gv_str (i : Str) : Gv.d (.str i) = .str i := rfl
@[simp] theorem Gv_tup (l : List Str) : Gv.d (.tup l) = .kt (l.map .str) := rfl
@[simp] theorem eqD_int (i j : Int) : eqD (.int i) (.int j) = some (i == j) := rfl
@[simp] theorem eqD_str (i j : Str) : eqD (.str i) (.str j) = some (i == j) := rfl
theorem intsD_map (ns : List Int) : intsD (ns.map .int) = some ns := by
  induction ns with
  | nil => rfl
  | cons n ns ih => show (intsD (ns.map .int)).map (n :: ·) = _; rw [ih]; rfl
theorem boolsD_map (ns : List Bool) : boolsD (ns.map .bl) = some ns := by
  induction ns with
  | nil => rfl
  | cons n ns ih => show (boolsD (ns.map .bl)).map (n :: ·) = _; rw [ih]; rfl
end Ev
set_option Elab.async false
set_option linter.all false
set_option maxRecDepth 100000
set_option maxHeartbeats 1000000
/-! The plain law's steps: one statement at a time, what comes behind kept out of sight. -/
namespace Ev
open PySem
theorem Ok_hide {α : Type} {r : Res α} {P : α → Sto → Prop} (h : ∀ Q, Q = P → Ok r Q) : Ok r P := h P rfl
theorem unhide {α : Type} {P Q : α → Sto → Prop} (e : Q = P) {a : α} {st : Sto} (h : P a st) : Q a st := by rw [e]; exact h
theorem ite_hid {α : Type} (Q : α → Sto → Prop) (c : Prop) [Decidable c] (a b : α) (st : Sto) : (if c then Q a st else Q b st) = Q (if c then a else b) st := by split <;> rfl
theorem eq_of_Ok {α : Type} {r : Res α} {a : α} {st : Sto} (h : Ok r fun b st' => b = a ∧ st' = st) : r = .ok a st := by
  obtain ⟨b, s, e, h1, h2⟩ := h.out
  rw [e, h1, h2]
def cond2 (x : D) (A B : Prop) : Prop := match x with
  | .bl true => A
  | .bl false => B
  | _ => False
theorem c2_t {A B : Prop} (h : A) : cond2 (.bl true) A B := h
theorem c2_f {A B : Prop} (h : B) : cond2 (.bl false) A B := h
theorem c2_dec {c : Bool} {A B : Prop} (h : c = true → A) (h2 : c = false → B) : cond2 (.bl c) A B := by cases c; exact h2 rfl; exact h rfl
theorem c2_prop {c : Prop} [Decidable c] {A B : Prop} (h : c → A) (h2 : ¬ c → B) : cond2 (.bl (decide c)) A B := by
  by_cases x : c
  · rw [decide_eq_true x]; exact h x
  · rw [decide_eq_false x]; exact h2 x
theorem getputw (ρ : Rho) (i j : Nat) (s : Sl) : get (put ρ i s) j = if j = i then s else get ρ j := by
  induction ρ generalizing i j with
  | nil =>
    induction i generalizing j with
    | zero => cases j <;> rfl
    | succ i ih => cases j with
      | zero => rfl
      | succ j =>
        show get (put [] i s) j = _
        rw [ih]
        by_cases h : j = i
        · rw [if_pos h, if_pos (by omega)]
        · rw [if_neg h, if_neg (by omega)]
          rfl
  | cons x ρ ih => cases i with
    | zero => cases j <;> rfl
    | succ i => cases j with
      | zero => rfl
      | succ j =>
        show get (put ρ i s) j = _
        rw [ih]
        by_cases h : j = i
        · rw [if_pos h, if_pos (by omega)]
        · rw [if_neg h, if_neg (by omega)]
          rfl
section
variable {F : Nat → List D → Sto → Res (D × Bool)} {Γ : Nat → D} {ρ : Rho} {st : Sto} {P : Fl × Rho → Sto → Prop} {s t a b : Stm} {e c : Ex}
theorem w_seq (h : Ok (evS F Γ s ρ st) fun r st => match r.1 with
    | .nx => Ok (evS F Γ t r.2 st) P
    | f => P (f, r.2) st) : Ok (evS F Γ (.seq s t) ρ st) P := by
  rw [s_seq, Ok_bind]
  refine h.mono fun r st' q => ?_
  obtain ⟨f, ρ'⟩ := r
  cases f <;> first | exact q | exact ⟨q⟩
theorem w_assoc (h : Ok (evS F Γ (.seq a (.seq b t)) ρ st) P) : Ok (evS F Γ (.seq (.seq a b) t) ρ st) P := by
  have e : evS F Γ (.seq (.seq a b) t) ρ st = evS F Γ (.seq a (.seq b t)) ρ st := by
    simp only [s_seq]
    cases evS F Γ a ρ st with
    | bad => rfl
    | ok r st' =>
      obtain ⟨f, ρ'⟩ := r
      cases f <;> rfl
  rw [e]; exact h
theorem w_skip (h : Ok (evS F Γ t ρ st) P) : Ok (evS F Γ (.seq .skip t) ρ st) P := w_seq ⟨h⟩
theorem w_pass (h : Ok (evS F Γ t ρ st) P) : Ok (evS F Γ (.seq .pass t) ρ st) P := w_seq ⟨h⟩
theorem w_end (h : P (.nx, ρ) st) : Ok (evS F Γ .skip ρ st) P := ⟨h⟩
theorem w_brk (h : P (.bk, ρ) st) : Ok (evS F Γ (.seq .brk t) ρ st) P := w_seq ⟨h⟩
theorem w_cnt (h : P (.ct, ρ) st) : Ok (evS F Γ (.seq .cnt t) ρ st) P := w_seq ⟨h⟩
theorem w_asg {i : Nat} (h : Ok (evE F Γ e ρ st) fun d st => Ok (evS F Γ t (put ρ i (.v d)) st) P) : Ok (evS F Γ (.seq (.asg i e) t) ρ st) P := by
  refine w_seq ?_
  rw [s_asg, Ok_bind]
  exact h.mono fun d st' q => ⟨q⟩
theorem w_asgo {i : Nat} (h : Ok ((evX F Γ e ρ st).bind fun r st => lift (slOf true r) st) fun s st => Ok (evS F Γ t (put ρ i s) st) P) : Ok (evS F Γ (.seq (.asgo i e) t) ρ st) P := by
  rw [Ok_bind] at h
  refine w_seq ?_
  rw [s_asgo, Ok_bind]
  refine h.mono fun r st' q => ?_
  rw [Ok_bind]
  exact q.mono fun d st' q => ⟨q⟩
theorem w_tasg {is : List Nat} (h : Ok ((evE F Γ e ρ st).bind fun d st => lift (bindT (.many is) d ρ) st) fun ρ' st => Ok (evS F Γ t ρ' st) P) : Ok (evS F Γ (.seq (.tasg is e) t) ρ st) P := by
  rw [Ok_bind] at h
  refine w_seq ?_
  rw [s_tasg, Ok_bind]
  refine h.mono fun d st' q => ?_
  rw [Ok_bind]
  exact q.mono fun d st' q => ⟨q⟩
theorem w_pasg {is : List Nat} {os : List Bool} (h : Ok ((evP F Γ e os ρ st).bind fun ss st => lift (putS ρ is ss) st) fun ρ' st => Ok (evS F Γ t ρ' st) P) : Ok (evS F Γ (.seq (.pasg is os e) t) ρ st) P := by
  rw [Ok_bind] at h
  refine w_seq ?_
  rw [s_pasg, Ok_bind]
  refine h.mono fun d st' q => ?_
  rw [Ok_bind]
  exact q.mono fun d st' q => ⟨q⟩
theorem w_fz {i : Nat} (h : Ok (match get ρ i with | .own o => Res.ok (put ρ i (.v o.toD)) st | _ => .bad) fun ρ' st => Ok (evS F Γ t ρ' st) P) : Ok (evS F Γ (.seq (.fz i) t) ρ st) P := by
  refine w_seq ?_
  rw [s_fz]
  revert h
  cases get ρ i with
  | own o => exact fun h => ⟨h.p⟩
  | un => exact fun h => h.p.elim
  | v d => exact fun h => h.p.elim
theorem w_shr {i : Nat} {o : Ob} (h0 : get ρ i = .own o) (h : Ok (evS F Γ t (put ρ i (.v (.ref st.length))) (st ++ [o])) P) : Ok (evS F Γ (.seq (.shr i) t) ρ st) P := by
  refine w_seq ?_
  rw [s_shr, h0]
  exact ⟨h⟩
theorem w_setix {i : Nat} {k : Ex} (h : Ok ((evE F Γ e ρ st).bind fun v st => (evE F Γ k ρ st).bind fun y st => (lift (obAt ρ st i) st).bind fun o st => (lift (setOb o y v) st).bind fun o' st => obPut ρ st i o') fun r st => Ok (evS F Γ t r.2 st) P) : Ok (evS F Γ (.seq (.setix i k e) t) ρ st) P := by
  simp only [Ok_bind] at h
  refine w_seq ?_
  rw [s_setix, Ok_bind]
  refine h.mono fun d st' q => ?_
  rw [Ok_bind]
  refine q.mono fun d st' q => ?_
  rw [Ok_bind]
  refine q.mono fun d st' q => ?_
  rw [Ok_bind]
  refine q.mono fun d st' q => ?_
  obtain ⟨r, st2, e1, q⟩ := q.out
  rw [e1]
  have hn : r.1 = .nx := by
    unfold obPut at e1
    split at e1 <;> first | (cases e1; rfl) | cases e1
  refine ⟨?_⟩
  obtain ⟨f, ρ'⟩ := r
  cases hn
  exact q
theorem w_app {i : Nat} (h : Ok (evS F Γ (.app i e) ρ st) fun r st => Ok (evS F Γ t r.2 st) P) : Ok (evS F Γ (.seq (.app i e) t) ρ st) P := by
  have nx : ∀ (ρ : Rho) (st st2 : Sto) (o : Ob) (r : Fl × Rho), obPut ρ st i o = .ok r st2 → r.1 = .nx := fun ρ st st2 o r e1 => by
    unfold obPut at e1
    split at e1 <;> first | (cases e1; rfl) | cases e1
  refine w_seq ?_
  obtain ⟨r, st2, e1, q⟩ := h.out
  rw [e1]
  have hn : r.1 = .nx := by
    rw [s_app] at e1
    split at e1
    · cases h1 : evE F Γ e ρ st with
      | bad => rw [h1] at e1; cases e1
      | ok v st1 =>
        rw [h1] at e1
        simp only [bind_ok'] at e1
        cases h2 : obAt ρ st1 i with
        | none => rw [h2] at e1; cases e1
        | some o =>
          rw [h2] at e1
          simp only [lift_some, bind_ok'] at e1
          split at e1
          · split at e1
            · exact nx _ _ _ _ _ e1
            · cases e1
          · cases e1
    · cases e1
  refine ⟨?_⟩
  obtain ⟨f, ρ'⟩ := r
  cases hn
  exact q
theorem w_exp (h : Ok (evE F Γ e ρ st) fun _ st => Ok (evS F Γ t ρ st) P) : Ok (evS F Γ (.seq (.exp e) t) ρ st) P := by
  refine w_seq ?_
  rw [s_exp, Ok_bind]
  exact h.mono fun d st' q => ⟨q⟩
theorem w_ret (h : Ok (evX F Γ e ρ st) fun d st => P (.rt d.1 d.2, ρ) st) : Ok (evS F Γ (.seq (.ret e) t) ρ st) P := by
  refine w_seq ?_
  rw [s_ret, Ok_bind]
  exact h.mono fun d st' q => ⟨q⟩
theorem w_ite (h : Ok (evE F Γ c ρ st) fun x st => cond2 x (Ok (evS F Γ (.seq a t) ρ st) P) (Ok (evS F Γ (.seq b t) ρ st) P)) : Ok (evS F Γ (.seq (.ite c a b) t) ρ st) P := by
  refine w_seq ?_
  rw [s_ite, Ok_bind]
  refine h.mono fun x st' q => ?_
  unfold cond2 at q
  split at q
  · have q := q.out
    obtain ⟨r, st2, e1, q⟩ := q
    refine ⟨?_⟩
    simp only [asB, lift_some, bind_ok', if_true]
    rw [s_seq] at e1
    cases h1 : evS F Γ a ρ st' with
    | bad => rw [h1] at e1; cases e1
    | ok r1 st1 =>
      rw [h1] at e1
      obtain ⟨f, ρ'⟩ := r1
      cases f with
      | nx => exact Ok.mk (by rw [show evS F Γ t ρ' st1 = .ok r st2 from e1]; exact q)
      | bk => cases e1; exact q
      | ct => cases e1; exact q
      | rt d b => cases e1; exact q
  · have q := q.out
    obtain ⟨r, st2, e1, q⟩ := q
    refine ⟨?_⟩
    simp only [asB, lift_some, bind_ok', Bool.false_eq_true, if_false]
    rw [s_seq] at e1
    cases h1 : evS F Γ b ρ st' with
    | bad => rw [h1] at e1; cases e1
    | ok r1 st1 =>
      rw [h1] at e1
      obtain ⟨f, ρ'⟩ := r1
      cases f with
      | nx => exact Ok.mk (by rw [show evS F Γ t ρ' st1 = .ok r st2 from e1]; exact q)
      | bk => cases e1; exact q
      | ct => cases e1; exact q
      | rt d b => cases e1; exact q
  · exact q.elim
/-- ways that meet -/
theorem w_cut (R : Rho → Prop) (h : Ok (evS F Γ (.seq s .skip) ρ st) fun r st' => r.1 = .nx ∧ st' = st ∧ R r.2) (h2 : ∀ ρ', R ρ' → Ok (evS F Γ t ρ' st) P) : Ok (evS F Γ (.seq s t) ρ st) P := by
  obtain ⟨r, st', e, e1, e2, e3⟩ := h.out
  subst e2
  refine w_seq ?_
  rw [s_seq] at e
  cases h1 : evS F Γ s ρ st' with
  | bad => rw [h1] at e; cases e
  | ok r1 st1 =>
    rw [h1] at e
    obtain ⟨f, ρ1⟩ := r1
    cases f with
    | nx => cases e; exact ⟨h2 _ e3⟩
    | bk => cases e; cases e1
    | ct => cases e; cases e1
    | rt d b => cases e; cases e1
/-- a turn's end -/
def Lop (I : Rho → Sto → Prop) (B : Rho → Sto → Prop) (P : Fl × Rho → Sto → Prop) (r : Fl × Rho) (st : Sto) : Prop := match r.1 with
  | .nx => I r.2 st
  | .ct => I r.2 st
  | .bk => B r.2 st
  | .rt d b => P (.rt d b, r.2) st
@[simp] theorem Lop_nx (I B : Rho → Sto → Prop) (P : Fl × Rho → Sto → Prop) (ρ : Rho) (st : Sto) : Lop I B P (.nx, ρ) st = I ρ st := rfl
@[simp] theorem Lop_ct (I B : Rho → Sto → Prop) (P : Fl × Rho → Sto → Prop) (ρ : Rho) (st : Sto) : Lop I B P (.ct, ρ) st = I ρ st := rfl
@[simp] theorem Lop_bk (I B : Rho → Sto → Prop) (P : Fl × Rho → Sto → Prop) (ρ : Rho) (st : Sto) : Lop I B P (.bk, ρ) st = B ρ st := rfl
@[simp] theorem Lop_rt (I B : Rho → Sto → Prop) (P : Fl × Rho → Sto → Prop) (d : D) (b : Bool) (ρ : Rho) (st : Sto) : Lop I B P (.rt d b, ρ) st = P (.rt d b, ρ) st := rfl
theorem w_whl (I : Nat → Rho → Sto → Prop) (m : Nat) (h0 : I m ρ st) (hm : m < WF)
    (hs : ∀ m ρ st, I m ρ st → Ok (evE F Γ c ρ st) fun x st1 => cond2 x (Ok (evS F Γ b ρ st1) (Lop (fun ρ st => ∃ m', m' < m ∧ I m' ρ st) (fun ρ st => Ok (evS F Γ t ρ st) P) P)) (Ok (evS F Γ t ρ st1) P)) : Ok (evS F Γ (.seq (.whl c b) t) ρ st) P := by
  refine w_seq ?_
  rw [s_whlS]
  refine whlS_Ok I _ (fun m ρ st hI => ?_) m ρ st h0 hm
  refine (hs m ρ st hI).mono fun x st1 q => ?_
  unfold cond2 at q
  split at q
  · refine ⟨true, rfl, ?_⟩
    rw [if_pos rfl]
    refine q.mono fun r st2 q => ?_
    obtain ⟨f, ρ'⟩ := r
    cases f <;> exact q
  · exact ⟨false, rfl, q⟩
  · exact q.elim
def Forx (F : Nat → List D → Sto → Res (D × Bool)) (Γ : Nat → D) (tg : Tg) (b t : Stm) (P : Fl × Rho → Sto → Prop) (xs : List D) (ρ : Rho) (st : Sto) : Prop :=
  Ok (forS F Γ tg b xs ρ st) fun r st => match r.1 with
    | .nx => Ok (evS F Γ t r.2 st) P
    | f => P (f, r.2) st
theorem w_for {tg : Tg} {it : Ex} (h : Ok (evI F Γ it ρ st) fun xs st => Forx F Γ tg b t P xs ρ st) : Ok (evS F Γ (.seq (.forin tg it b) t) ρ st) P := by
  refine w_seq ?_
  rw [s_forS, Ok_bind]
  exact h
theorem Forx.of {tg : Tg} {xs : List D} (I : Nat → Rho → Sto → Prop) (h : I 0 ρ st)
    (hs : ∀ j d ρ st, xs[j]? = some d → I j ρ st → ∃ ρ', bindT tg d ρ = some ρ' ∧ Ok (evS F Γ b ρ' st) (Lop (I (j + 1)) (fun ρ st => Ok (evS F Γ t ρ st) P) P)) (hd : ∀ ρ st, I xs.length ρ st → Ok (evS F Γ t ρ st) P) : Forx F Γ tg b t P xs ρ st := by
  refine forS_Ok I _ xs ρ st h (fun j d ρ st hj hI => ?_) fun ρ st hI => hd ρ st hI
  obtain ⟨ρ', e, q⟩ := hs j d ρ st hj hI
  refine ⟨ρ', e, q.mono fun r st' q => ?_⟩
  obtain ⟨f, ρ''⟩ := r
  cases f <;> exact q
/-- .. one by one -/
theorem Forx.nil {tg : Tg} (h : Ok (evS F Γ t ρ st) P) : Forx F Γ tg b t P [] ρ st := ⟨h⟩
theorem Forx.cons {tg : Tg} {x : D} {xs : List D} {ρ' : Rho} (e : bindT tg x ρ = some ρ') (h : Ok (evS F Γ b ρ' st) (Lop (fun ρ st => Forx F Γ tg b t P xs ρ st) (fun ρ st => Ok (evS F Γ t ρ st) P) P)) : Forx F Γ tg b t P (x :: xs) ρ st := by
  unfold Forx
  show Ok (((lift (bindT tg x ρ) st).bind fun ρ' st => evS F Γ b ρ' st).bind fun r st => match r.1 with
    | .nx => forS F Γ tg b xs r.2 st
    | .ct => forS F Γ tg b xs r.2 st
    | .bk => .ok (.nx, r.2) st
    | .rt d b => .ok (.rt d b, r.2) st) _
  rw [Ok_bind, Ok_bind, e, lift_some, Ok_ok]
  refine h.mono fun r st' q => ?_
  obtain ⟨f, ρ''⟩ := r
  cases f with
  | nx => exact q
  | ct => exact q
  | bk => exact ⟨q⟩
  | rt d b => exact ⟨q⟩
/-- .. over a list of things that are told -/
theorem Forx.map {α : Type} {tg : Tg} {xs : List α} {f : α → D} (I : Nat → Rho → Sto → Prop) (h : I 0 ρ st)
    (hs : ∀ j x ρ st, xs[j]? = some x → x ∈ xs → I j ρ st → ∃ ρ', bindT tg (f x) ρ = some ρ' ∧ Ok (evS F Γ b ρ' st) (Lop (I (j + 1)) (fun ρ st => Ok (evS F Γ t ρ st) P) P)) (hd : ∀ ρ st, I xs.length ρ st → Ok (evS F Γ t ρ st) P) : Forx F Γ tg b t P (xs.map f) ρ st := by
  refine Forx.of I h (fun j d ρ st hj hI => ?_) fun ρ st hI => hd ρ st (by rw [List.length_map] at hI; exact hI)
  rw [List.getElem?_map] at hj
  obtain ⟨x, hx, rfl⟩ := Option.map_eq_some_iff.mp hj
  exact hs j x ρ st hx (List.mem_of_getElem? hx) hI
/-- .. over a range -/
theorem Forx.rng {i : Nat} {n : Nat} {lo : Int} (I : Nat → Rho → Sto → Prop) (h : I 0 ρ st)
    (hs : ∀ j ρ st, j < n → I j ρ st → Ok (evS F Γ b (put ρ i (.v (.int (lo + (j : Int))))) st) (Lop (I (j + 1)) (fun ρ st => Ok (evS F Γ t ρ st) P) P)) (hd : ∀ ρ st, I n ρ st → Ok (evS F Γ t ρ st) P) : Forx F Γ (.one i) b t P (rngL lo 1 n) ρ st := by
  unfold rngL
  refine Forx.map I h (fun j x ρ st hj _ hI => ⟨_, rfl, ?_⟩) fun ρ st hI => hd ρ st (by rw [List.length_range] at hI; exact hI)
  have hx : j < n ∧ j = x := by
    obtain ⟨h1, h2⟩ := List.getElem?_eq_some_iff.mp hj
    rw [List.length_range] at h1
    rw [List.getElem_range] at h2
    exact ⟨h1, h2⟩
  obtain ⟨h1, rfl⟩ := hx
  rw [Int.mul_one]
  exact hs j ρ st h1 hI
end
/-! ### comprehensions over told lists -/
theorem lcL_map {α : Type} {test : D → Sto → Res Bool} {elt : D → Sto → Res D} (p : α → Bool) (g : α → D) (f : α → D) (st : Sto) : ∀ (xs : List α), (∀ x ∈ xs, test (f x) st = .ok (p x) st) → (∀ x ∈ xs, p x = true → elt (f x) st = .ok (g x) st) → lcL test elt (xs.map f) st = .ok ((xs.filter p).map g) st
  | [], _, _ => rfl
  | x :: xs, h1, h2 => by
    show ((test (f x) st).bind fun b st => if b then (elt (f x) st).bind fun y st => (lcL test elt (xs.map f) st).bind fun ys st => .ok (y :: ys) st else lcL test elt (xs.map f) st) = _
    have ih := lcL_map p g f st xs (fun y hy => h1 y (List.mem_cons_of_mem _ hy)) fun y hy => h2 y (List.mem_cons_of_mem _ hy)
    rw [h1 x (List.mem_cons_self ..), bind_ok']
    cases hp : p x with
    | false =>
      rw [List.filter_cons_of_neg (by rw [hp]; exact Bool.false_ne_true)]
      exact ih
    | true =>
      rw [List.filter_cons_of_pos hp]
      simp only [if_true]
      rw [h2 x (List.mem_cons_self ..) hp, bind_ok', ih]
      rfl
theorem lcS_map {α : Type} {F : Nat → List D → Sto → Res (D × Bool)} {Γ : Nat → D} {elt tests : Ex} {tg : Tg} {ρ : Rho} {st : Sto} (p : α → Bool) (g : α → D) (xs : List α) (f : α → D) (hl : xs.length ≤ LIM)
    (hs : ∀ x ∈ xs, ∃ ρ', bindT tg (f x) ρ = some ρ' ∧ evTs F Γ tests ρ' st = .ok (p x) st ∧ (p x = true → evE F Γ elt ρ' st = .ok (g x) st)) : lcS F Γ elt tg tests ρ (xs.map f) st = .ok (.lst ((xs.filter p).map g)) st := by
  unfold lcS
  rw [if_pos (by rw [List.length_map]; exact hl), lcL_map p g f st xs (fun x hx => ?_) (fun x hx hp => ?_)]
  · rfl
  · obtain ⟨ρ', e, h1, _⟩ := hs x hx
    rw [e, lift_some, bind_ok', h1]
  · obtain ⟨ρ', e, _, h2⟩ := hs x hx
    rw [e, lift_some, bind_ok', h2 hp]
/-! ### operations on told values -/
@[simp] theorem asB_bl (b : Bool) : asB (.bl b) = some b := rfl
@[simp] theorem asI_int (b : Int) : asI (.int b) = some b := rfl
@[simp] theorem cmp_eq (a b : D) : cmpD .eq a b = eqD a b := rfl
@[simp] theorem cmp_ne (a b : D) : cmpD .ne a b = (eqD a b).map (!·) := rfl
@[simp] theorem cmp_lt (a b : Int) : cmpD .lt (.int a) (.int b) = some (decide (a < b)) := rfl
@[simp] theorem cmp_le (a b : Int) : cmpD .le (.int a) (.int b) = some (decide (a ≤ b)) := rfl
@[simp] theorem cmp_gt (a b : Int) : cmpD .gt (.int a) (.int b) = some (decide (b < a)) := rfl
@[simp] theorem cmp_ge (a b : Int) : cmpD .ge (.int a) (.int b) = some (decide (b ≤ a)) := rfl
@[simp] theorem cmp_in (a b : D) : cmpD .isin a b = inD a b := rfl
@[simp] theorem cmp_nin (a b : D) : cmpD .notin a b = (inD a b).map (!·) := rfl
@[simp] theorem eqD_nn : eqD .non .non = some true := rfl
@[simp] theorem eqD_ni (i : Int) : eqD .non (.int i) = some false := rfl
@[simp] theorem eqD_in (i : Int) : eqD (.int i) .non = some false := rfl
@[simp] theorem eqD_bb (a b : Bool) : eqD (.bl a) (.bl b) = some (a == b) := rfl
@[simp] theorem bin_add (a b : Int) : binD .add (.int a) (.int b) = some (.int (a + b)) := rfl
@[simp] theorem bin_sub (a b : Int) : binD .sub (.int a) (.int b) = some (.int (a - b)) := rfl
theorem bin_mul {a b : Int} (h : (small64 a || small64 b || (big a && big b)) = true) : binD .mul (.int a) (.int b) = some (.int (a * b)) := by
  show (if (small64 a || small64 b || (big a && big b)) = true then _ else _) = _
  rw [if_pos h]
theorem small_lit {i : Int} (h1 : -(2 ^ 64) < i) (h2 : i < 2 ^ 64) : small64 i = true := by
  unfold small64
  rw [Bool.and_eq_true, decide_eq_true_eq, decide_eq_true_eq]
  exact ⟨h1, h2⟩
theorem big_lit {i : Int} (h1 : -(2 ^ 64) < i) (h2 : i < 2 ^ 64) : big i = true := big_of (by omega)
@[simp] theorem bin_mod {a b : Int} (h : 0 < b) : binD .mod (.int a) (.int b) = some (.int (a % b)) := by
  show (if 0 < b then _ else _) = _
  rw [if_pos h]
theorem bin_fdiv {a b : Int} (h : 0 < b) (h2 : b < 18446744073709551616) : binD .fdiv (.int a) (.int b) = some (.int (a / b)) := by
  show (if 0 < b ∧ big b = true then _ else _) = _
  rw [if_pos ⟨h, big_lit (by omega) (by omega)⟩]
@[simp] theorem fdiv2 (a : Int) : binD .fdiv (.int a) (.int 2) = some (.int (a / 2)) := bin_fdiv (by decide) (by decide)
@[simp] theorem bi_len (ds : List D) : biD .len [.lst ds] = some (.int ds.length) := rfl
@[simp] theorem bi_lent (ds : List D) : biD .len [.tup ds] = some (.int ds.length) := rfl
@[simp] theorem bi_lens (ns : List Int) : biD .len [.scr ns] = some (.int ns.length) := rfl
@[simp] theorem bi_abs (i : Int) : biD .abs [.int i] = some (.int (if i < 0 then -i else i)) := rfl
@[simp] theorem bi_int (i : Int) : biD .int [.int i] = some (.int i) := rfl
@[simp] theorem bi_intb (i : Bool) : biD .int [.bl i] = some (.int (if i then 1 else 0)) := rfl
@[simp] theorem bi_max2 (i j : Int) : biD .max2 [.int i, .int j] = some (.int (if j > i then j else i)) := rfl
@[simp] theorem bi_min2 (i j : Int) : biD .min2 [.int i, .int j] = some (.int (if j < i then j else i)) := rfl
@[simp] theorem bi_sum (ns : List Int) : biD .sum [.lst (ns.map .int)] = some (.int ns.sum) := by
  show (intsD (ns.map .int)).map _ = _
  rw [intsD_map]; rfl
@[simp] theorem bi_sumt (ns : List Int) : biD .sum [.tup (ns.map .int)] = some (.int ns.sum) := by
  show (intsD (ns.map .int)).map _ = _
  rw [intsD_map]; rfl
@[simp] theorem bi_all (ns : List Bool) : biD .all [.lst (ns.map .bl)] = some (.bl (ns.all id)) := by
  show (boolsD (ns.map .bl)).map _ = _
  rw [boolsD_map]; rfl
@[simp] theorem bi_sorted (ns : List Int) : biD .sorted [.lst (ns.map .int)] = some (.lst ((isort ns).map .int)) := by
  show (intsD (ns.map .int)).map _ = _
  rw [intsD_map]; rfl
@[simp] theorem bi_sortedt (ns : List Int) : biD .sorted [.tup (ns.map .int)] = some (.lst ((isort ns).map .int)) := by
  show (intsD (ns.map .int)).map _ = _
  rw [intsD_map]; rfl
theorem bi_ssetB {ns : List Int} (h : ns.length < 4000) (h2 : (ssort ns).length < 64) : biD .sset [.lst (ns.map .int)] = some (.lst ((ssort ns).map .int)) := by
  show (intsD (ns.map .int)).bind _ = _
  rw [intsD_map]
  show (if ns.length < 4000 ∧ (ssort ns).length < 64 then _ else _) = _
  rw [if_pos ⟨h, h2⟩]
theorem bi_sset {ns : List Int} (h : ns.length < 64) : biD .sset [.lst (ns.map .int)] = some (.lst ((ssort ns).map .int)) := bi_ssetB (by omega) (Nat.lt_of_le_of_lt (ssort_len ns) h)
theorem bi_sset_t {ns : List Int} (h : ns.length < 64) : biD .sset [.tup (ns.map .int)] = some (.lst ((ssort ns).map .int)) := by
  show (intsD (ns.map .int)).bind _ = _
  rw [intsD_map]
  show (if ns.length < 4000 ∧ (ssort ns).length < 64 then _ else _) = _
  rw [if_pos ⟨by omega, Nat.lt_of_le_of_lt (ssort_len ns) h⟩]
@[simp] theorem bi_tuple (ds : List D) : biD .tuple [.lst ds] = some (.tup ds) := rfl
@[simp] theorem bi_tuplet (ds : List D) : biD .tuple [.tup ds] = some (.tup ds) := rfl
@[simp] theorem bi_list (ds : List D) : biD .list [.lst ds] = some (.lst ds) := rfl
@[simp] theorem bi_listt (ds : List D) : biD .list [.tup ds] = some (.lst ds) := rfl
@[simp] theorem elems_l (ds : List D) : Ev.elems (.lst ds) = some ds := rfl
@[simp] theorem elems_t (ds : List D) : Ev.elems (.tup ds) = some ds := rfl
@[simp] theorem elemsK_l (ds : List D) : elemsK (.lst ds) = some ds := rfl
@[simp] theorem elemsK_t (ds : List D) : elemsK (.tup ds) = some ds := rfl
@[simp] theorem elemsK_k (ds : List D) : elemsK (.kt ds) = some ds := rfl
@[simp] theorem bindT_one (i : Nat) (d : D) (ρ : Rho) : bindT (.one i) d ρ = some (put ρ i (.v d)) := rfl
@[simp] theorem bindT_many (is : List Nat) (ds : List D) (ρ : Rho) : bindT (.many is) (.tup ds) ρ = putL ρ is ds := rfl
@[simp] theorem putL_nil (ρ : Rho) : putL ρ [] [] = some ρ := rfl
@[simp] theorem putL_cons (ρ : Rho) (i : Nat) (is : List Nat) (d : D) (ds : List D) : putL ρ (i :: is) (d :: ds) = putL (put ρ i (.v d)) is ds := rfl
@[simp] theorem putS_nil (ρ : Rho) : putS ρ [] [] = some ρ := rfl
@[simp] theorem putS_cons (ρ : Rho) (i : Nat) (is : List Nat) (d : Sl) (ds : List Sl) : putS ρ (i :: is) (d :: ds) = putS (put ρ i d) is ds := rfl
@[simp] theorem slOf_v (d : D) (b : Bool) : slOf false (d, b) = some (.v d) := rfl
@[simp] theorem slOf_l (ds : List D) : slOf true (.lst ds, true) = some (.own (.lst ds)) := rfl
@[simp] theorem slOf_d (k : Bool) (ds : List (D × D)) : slOf true (.dct k ds, true) = some (.own (.dct k ds)) := rfl
@[simp] theorem toD_l (ds : List D) : Ob.toD (.lst ds) = .lst ds := rfl
@[simp] theorem toD_d (k : Bool) (ds : List (D × D)) : Ob.toD (.dct k ds) = .dct k ds := rfl
section
variable (d : D) (a b c : Ex) (i : Nat)
@[simp] theorem fr_var : frX (.var i) d = false := rfl
@[simp] theorem fr_bor : frX (.bor i) d = false := rfl
@[simp] theorem fr_own : frX (.own i) d = true := rfl
@[simp] theorem fr_int (j : Int) : frX (.cint j) d = false := rfl
@[simp] theorem fr_str (j : Str) : frX (.cstr j) d = false := rfl
@[simp] theorem fr_bl (j : Bool) : frX (.cbl j) d = false := rfl
@[simp] theorem fr_non : frX .cnon d = false := rfl
@[simp] theorem fr_glob : frX (.glob i) d = false := rfl
@[simp] theorem fr_neg : frX (.neg a) d = false := rfl
@[simp] theorem fr_not : frX (.not a) d = false := rfl
@[simp] theorem fr_cmp (o : Cop) : frX (.cmp o a b) d = false := rfl
@[simp] theorem fr_chain (o p : Cop) : frX (.chain o p a b c) d = false := rfl
@[simp] theorem fr_isc (n : Bool) (x : D) : frX (.isc n a x) d = false := rfl
@[simp] theorem fr_and : frX (.and a) d = false := rfl
@[simp] theorem fr_or : frX (.or a) d = false := rfl
@[simp] theorem fr_ife : frX (.ife a b c) d = false := rfl
@[simp] theorem fr_tup : frX (.tup a) d = false := rfl
@[simp] theorem fr_list : frX (.list a) d = true := rfl
@[simp] theorem fr_dict (k : Bool) : frX (.dict k a) d = true := rfl
@[simp] theorem fr_ix : frX (.ix a b) d = false := rfl
@[simp] theorem fr_lc (t : Tg) : frX (.lc a t b c) d = true := rfl
@[simp] theorem fr_isi (t : Ty) : frX (.isi a t) d = false := rfl
@[simp] theorem fr_call : frX (.call i a) d = false := rfl
@[simp] theorem fr_binint (o : Bop) (j : Int) : frX (.bin o a b) (.int j) = false := by cases o <;> rfl
@[simp] theorem fr_bintup (o : Bop) (j : List D) : frX (.bin o a b) (.tup j) = false := by cases o <;> rfl
@[simp] theorem fr_binlst (j : List D) : frX (.bin .add a b) (.lst j) = true := rfl
@[simp] theorem fr_mullst (j : List D) : frX (.bin .mul a b) (.lst j) = true := rfl
@[simp] theorem fr_bisum : frX (.bi .sum a) d = false := rfl
@[simp] theorem fr_bilen : frX (.bi .len a) d = false := rfl
@[simp] theorem fr_biall : frX (.bi .all a) d = false := rfl
@[simp] theorem fr_biint : frX (.bi .int a) d = false := rfl
@[simp] theorem fr_bitup : frX (.bi .tuple a) d = false := rfl
@[simp] theorem fr_bisorted : frX (.bi .sorted a) d = true := rfl
@[simp] theorem fr_bisset : frX (.bi .sset a) d = true := rfl
@[simp] theorem fr_bilist : frX (.bi .list a) d = true := rfl
end
@[simp] theorem ite_int (c : Prop) [Decidable c] (a b : Int) : (if c then D.int a else D.int b) = .int (if c then a else b) := by split <;> rfl
@[simp] theorem ite_str (c : Prop) [Decidable c] (a b : Str) : (if c then D.str a else D.str b) = .str (if c then a else b) := by split <;> rfl
@[simp] theorem ite_ofs (c : Prop) [Decidable c] (a b : String) : (if c then Str.ofString a else Str.ofString b) = Str.ofString (if c then a else b) := by split <;> rfl
@[simp] theorem ite_bl (c : Prop) [Decidable c] (a b : Bool) : (if c then D.bl a else D.bl b) = .bl (if c then a else b) := by split <;> rfl
@[simp] theorem rngD_one {j : Int} (h : -(2 ^ 62) ≤ j) (h2 : j < 2 ^ 62) : rngD [.int j] = some (rngL 0 1 j.toNat) := by
  show (if in62 j = true then _ else _) = _
  rw [if_pos (by unfold in62; rw [Bool.and_eq_true, decide_eq_true_eq, decide_eq_true_eq]; exact ⟨h, h2⟩)]
@[simp] theorem rngD_two {i j : Int} (h1 : -(2 ^ 62) ≤ i) (h3 : i < 2 ^ 62) (h : -(2 ^ 62) ≤ j) (h2 : j < 2 ^ 62) : rngD [.int i, .int j] = some (rngL i 1 (j - i).toNat) := by
  show (if (in62 i && in62 j) = true then _ else _) = _
  rw [if_pos (by unfold in62; simp only [Bool.and_eq_true, decide_eq_true_eq]; exact ⟨⟨h1, h3⟩, h, h2⟩)]
@[simp] theorem ite_res {α : Type} (c : Prop) [Decidable c] (a b : α) (st : Sto) : (if c then Res.ok a st else Res.ok b st) = .ok (if c then a else b) st := by split <;> rfl
theorem enuL_map {α : Type} (f : α → D) : ∀ (xs : List α) (n : Nat), enuL n (xs.map f) = (xs.zipIdx n).map fun p => .tup [.int (p.2 : Nat), f p.1]
  | [], _ => rfl
  | x :: xs, n => by
    rw [List.map_cons, List.zipIdx_cons, List.map_cons]
    show _ :: enuL (n + 1) (xs.map f) = _
    rw [enuL_map f xs (n + 1)]
theorem zipL_map {α β : Type} (f : α → D) (g : β → D) : ∀ (xs : List α) (ys : List β), zipL (xs.map f) (ys.map g) = (xs.zip ys).map fun p => .tup [f p.1, g p.2]
  | [], _ => rfl
  | _ :: _, [] => rfl
  | x :: xs, y :: ys => by
    rw [List.map_cons, List.map_cons, List.zip_cons_cons, List.map_cons]
    show _ :: zipL (xs.map f) (ys.map g) = _
    rw [zipL_map f g xs ys]
theorem rngL_map (lo : Int) (n : Nat) : rngL lo 1 n = (List.range n).map fun (i : Nat) => .int (lo + (i : Int)) := by
  unfold rngL
  refine List.map_congr_left fun i _ => ?_
  rw [Int.mul_one]
@[simp] theorem eqD_nill : eqD (.lst []) (.lst []) = some true := rfl
@[simp] theorem eqD_nilt : eqD (.tup []) (.tup []) = some true := rfl
end Ev
set_option Elab.async false
set_option linter.all false
set_option maxRecDepth 100000
set_option maxHeartbeats 1000000
/-! Told things that can be compared. -/
namespace Ev
open PySem
structure En {α : Type} [DecidableEq α] (f : α → D) (k : Nat) : Prop where
  sh : ∀ a n, k ≤ n → D.sh n (f a) = true
  eq : ∀ a b n, k < n → eqvN n (f a) (f b) = decide (a = b)
theorem en_int : En D.int 0 := ⟨fun a n _ => by cases n <;> rfl, fun a b n h => by
  cases n with
  | zero => omega
  | succ n =>
    show (a == b) = _
    by_cases h : a = b <;> simp [h]⟩
theorem sh_ofS (s : String) (n : Nat) : D.sh n (.str (Str.ofString s)) = true := by
  have e : D.sh n (.str (Str.ofString s)) = (Str.ofString s).cps.all (· < 0x110000) := by cases n <;> rfl
  rw [e, Str.ofString_eq_toList]
  rw [Array.all_eq_true]
  intro i hi
  simp only [List.getElem_toArray, List.getElem_map, decide_eq_true_eq]
  generalize s.toList[i]'_ = c
  have := c.valid
  have h2 : c.toNat < 0x110000 := by
    rcases this with h | ⟨_, h⟩
    · show c.val.toNat < _
      have : c.val.toNat < 0xd800 := h
      omega
    · exact h
  exact h2
theorem en_str : En (fun s : String => D.str (Str.ofString s)) 0 := ⟨fun a n _ => sh_ofS a n, fun a b n h => by
  cases n with
  | zero => omega
  | succ n =>
    show (Str.ofString a == Str.ofString b) = _
    rw [ofS_beq]⟩
def optI' : Option Int → D
  | none => .non
  | some i => .int i
theorem en_opt : En optI' 0 := ⟨fun a n _ => by cases a <;> cases n <;> rfl, fun a b n h => by
  cases n with
  | zero => omega
  | succ n =>
    cases a with
    | none => cases b <;> rfl
    | some a => cases b with
      | none => rfl
      | some b =>
        show (a == b) = _
        by_cases h : a = b <;> simp [h]⟩
section
variable {α β : Type} [DecidableEq α] [DecidableEq β] {f : α → D} {g : β → D} {k j : Nat}
theorem En.all2 (h : En f k) {n : Nat} (hn : k < n) : ∀ (xs ys : List α), all2 (eqvN n) (xs.map f) (ys.map f) = decide (xs = ys)
  | [], [] => rfl
  | [], y :: ys => rfl
  | x :: xs, [] => rfl
  | x :: xs, y :: ys => by
    show (eqvN n (f x) (f y) && Ev.all2 (eqvN n) (xs.map f) (ys.map f)) = _
    rw [En.all2 h hn xs ys, h.eq x y n hn]
    by_cases h1 : x = y <;> by_cases h2 : xs = ys <;> simp [h1, h2]
theorem En.shs (h : En f k) {n : Nat} (hn : k ≤ n) (xs : List α) : (xs.map f).all (D.sh n) = true := by
  rw [List.all_eq_true]
  intro d hd
  obtain ⟨x, _, rfl⟩ := List.mem_map.mp hd
  exact h.sh x n hn
theorem En.lst (h : En f k) : En (fun xs : List α => D.lst (xs.map f)) (k + 1) := ⟨fun a n hn => by
  cases n with
  | zero => omega
  | succ n => exact h.shs (by omega) a, fun a b n hn => by
  cases n with
  | zero => omega
  | succ n => exact h.all2 (by omega) a b⟩
theorem En.tup (h : En f k) : En (fun xs : List α => D.tup (xs.map f)) (k + 1) := ⟨fun a n hn => by
  cases n with
  | zero => omega
  | succ n => exact h.shs (by omega) a, fun a b n hn => by
  cases n with
  | zero => omega
  | succ n => exact h.all2 (by omega) a b⟩
theorem En.up (h : En f k) {l : Nat} (hl : k ≤ l) : En f l := ⟨fun a n hn => h.sh a n (by omega), fun a b n hn => h.eq a b n (by omega)⟩
theorem En.pair (h : En f k) (h' : En g k) : En (fun p : α × β => D.tup [f p.1, g p.2]) (k + 1) := ⟨fun a n hn => by
  cases n with
  | zero => omega
  | succ n =>
    show (D.sh n (f a.1) && (D.sh n (g a.2) && true)) = true
    rw [h.sh _ n (by omega), h'.sh _ n (by omega)]
    rfl, fun a b n hn => by
  cases n with
  | zero => omega
  | succ n =>
    show (eqvN n (f a.1) (f b.1) && (eqvN n (g a.2) (g b.2) && true)) = _
    rw [h.eq _ _ n (by omega), h'.eq _ _ n (by omega)]
    obtain ⟨a1, a2⟩ := a
    obtain ⟨b1, b2⟩ := b
    by_cases z1 : a1 = b1 <;> by_cases z2 : a2 = b2 <;> simp [z1, z2]⟩
theorem En.eqD (h : En f k) (hk : k ≤ 60) (a b : α) : eqD (f a) (f b) = some (decide (a = b)) := by
  have h1 := h.sh a 64 (by omega)
  have h2 := h.sh b 64 (by omega)
  have h3 := h.eq a b 66 (by omega)
  unfold Ev.eqD
  split
  · rename_i i j e1 e2
    rw [e1, e2] at h3
    rw [← h3]; rfl
  · rename_i i j e1 e2
    rw [e1, e2] at h3
    rw [← h3]; rfl
  · rename_i e1 e2
    rw [e1, e2] at h3
    rw [← h3]; rfl
  · rename_i e1 e2
    rw [e1] at h1
    cases h1
  · rw [h1, h2, h3]; rfl
theorem En.inL (h : En f k) (hk : k ≤ 59) (a : α) (xs : List α) : inD (f a) (.lst (xs.map f)) = some (decide (a ∈ xs)) := by
  show (if ((f a).sh 60 && (xs.map f).all (D.sh 60)) = true then some ((xs.map f).any fun y => eqvN 62 y (f a)) else none) = _
  rw [h.sh a 60 (by omega), h.shs (by omega) xs, Bool.and_self, if_pos rfl]
  congr 1
  rw [List.any_map]
  have : ((fun y => eqvN 62 y (f a)) ∘ f) = fun y => decide (y = a) := funext fun y => h.eq y a 62 (by omega)
  rw [this]
  by_cases z : a ∈ xs
  · rw [decide_eq_true z, List.any_eq_true]
    exact ⟨a, z, by simp⟩
  · rw [decide_eq_false z, List.any_eq_false]
    intro x hx e
    have : x = a := by simpa using e
    exact z (this ▸ hx)
end
@[simp] theorem eqD_opt (a b : Option Int) : eqD (optI' a) (optI' b) = some (decide (a = b)) := en_opt.eqD (by decide) a b
@[simp] theorem eqD_intsl (a b : List Int) : eqD (.lst (a.map .int)) (.lst (b.map .int)) = some (decide (a = b)) := en_int.lst.eqD (by decide) a b
@[simp] theorem eqD_intst (a b : List Int) : eqD (.tup (a.map .int)) (.tup (b.map .int)) = some (decide (a = b)) := en_int.tup.eqD (by decide) a b
@[simp] theorem optI_some (i : Int) : optI' (some i) = .int i := rfl
@[simp] theorem optI_none : optI' none = .non := rfl
theorem eqD_oi (a : Option Int) (b : Int) : eqD (optI' a) (.int b) = some (decide (a = some b)) := eqD_opt a (some b)
theorem eqD_on (a : Option Int) : eqD (optI' a) .non = some (decide (a = none)) := eqD_opt a none
theorem ix0 {α : Type} (a : α) (r : List α) : (ixD (a :: r).length 0).bind (fun j => (a :: r)[j]?) = some a := by
  unfold ixD
  rw [if_pos (by decide), if_pos (by rw [List.length_cons]; omega)]
  rfl
theorem ix1 {α : Type} (a b : α) (r : List α) : (ixD (a :: b :: r).length 1).bind (fun j => (a :: b :: r)[j]?) = some b := by
  unfold ixD
  rw [if_pos (by decide), if_pos (by rw [List.length_cons, List.length_cons]; omega)]
  rfl
theorem ix2 {α : Type} (a b c : α) (r : List α) : (ixD (a :: b :: c :: r).length 2).bind (fun j => (a :: b :: c :: r)[j]?) = some c := by
  unfold ixD
  rw [if_pos (by decide), if_pos (by rw [List.length_cons, List.length_cons, List.length_cons]; omega)]
  rfl
@[simp] theorem at_t0 (a : D) (r : List D) : atD (.tup (a :: r)) (.int 0) = some a := ix0 a r
@[simp] theorem at_t1 (a b : D) (r : List D) : atD (.tup (a :: b :: r)) (.int 1) = some b := ix1 a b r
@[simp] theorem at_t2 (a b c : D) (r : List D) : atD (.tup (a :: b :: c :: r)) (.int 2) = some c := ix2 a b c r
@[simp] theorem at_l0 (a : D) (r : List D) : atD (.lst (a :: r)) (.int 0) = some a := ix0 a r
@[simp] theorem at_l1 (a b : D) (r : List D) : atD (.lst (a :: b :: r)) (.int 1) = some b := ix1 a b r
@[simp] theorem filt_true {α : Type} (xs : List α) : xs.filter (fun _ => true) = xs := List.filter_eq_self.mpr fun _ _ => rfl
theorem lcS_map0 {α : Type} {F : Nat → List D → Sto → Res (D × Bool)} {Γ : Nat → D} {elt : Ex} {tg : Tg} {ρ : Rho} {st : Sto} (g : α → D) (xs : List α) (f : α → D) (hl : xs.length ≤ LIM)
    (hs : ∀ x ∈ xs, ∃ ρ', bindT tg (f x) ρ = some ρ' ∧ evE F Γ elt ρ' st = .ok (g x) st) : lcS F Γ elt tg .nil ρ (xs.map f) st = .ok (.lst (xs.map g)) st := by
  rw [lcS_map (fun _ => true) g xs f hl fun x hx => ?_, filt_true]
  obtain ⟨ρ', e1, e2⟩ := hs x hx
  exact ⟨ρ', e1, rfl, fun _ => e2⟩
theorem flat_map {α : Type} (f : α → D) (h : ∀ a, flatD (f a) = true) (xs : List α) : (xs.map f).all flatD = true := by
  rw [List.all_eq_true]
  intro d hd
  obtain ⟨x, _, rfl⟩ := List.mem_map.mp hd
  exact h x
theorem En.inT {α : Type} [DecidableEq α] {f : α → D} {k : Nat} (h : En f k) (hk : k ≤ 59) (hf : ∀ a, flatD (f a) = true) (a : α) (xs : List α) : inD (f a) (.tup (xs.map f)) = some (decide (a ∈ xs)) := by
  have := h.inL hk a xs
  rw [← this]
  show (if (flatD (f a) && (xs.map f).all flatD) = true then some ((xs.map f).any fun y => eqvN 62 y (f a)) else none) = (if ((f a).sh 60 && (xs.map f).all (D.sh 60)) = true then some ((xs.map f).any fun y => eqvN 62 y (f a)) else none)
  rw [hf a, flat_map f hf xs, h.sh a 60 (by omega), h.shs (by omega) xs]
@[simp] theorem inT_int (a : Int) (xs : List Int) : inD (.int a) (.tup (xs.map .int)) = some (decide (a ∈ xs)) := en_int.inT (by decide) (fun _ => rfl) a xs
@[simp] theorem inL_int (a : Int) (xs : List Int) : inD (.int a) (.lst (xs.map .int)) = some (decide (a ∈ xs)) := en_int.inL (by decide) a xs
@[simp] theorem beq_dec (a b : Int) : (a == b) = decide (a = b) := by by_cases h : a = b <;> simp [h]
theorem En.comp {α β : Type} [DecidableEq α] [DecidableEq β] {f : α → D} {k : Nat} (h : En f k) (g : β → α) (hi : ∀ a b, g a = g b → a = b) : En (fun b => f (g b)) k := ⟨fun a n hn => h.sh (g a) n hn, fun a b n hn => by
  rw [h.eq _ _ n hn]
  by_cases z : a = b
  · subst z; simp
  · have : g a ≠ g b := fun y => z (hi a b y)
    simp [z, this]⟩
theorem ixD_in {n : Nat} {i : Int} (h0 : 0 ≤ i) (h1 : i < n) : ixD n i = some i.toNat := by
  unfold ixD
  rw [if_pos h0, if_pos h1]
theorem set_ints {O : List Int} {i v : Int} (h0 : 0 ≤ i) (h1 : i < O.length) : setOb (.lst (O.map .int)) (.int i) (.int v) = some (.lst ((O.set i.toNat v).map .int)) := by
  show ((some i).bind fun i => (ixD (O.map D.int).length i).map fun j => Ob.lst ((O.map D.int).set j (.int v))) = _
  show ((ixD (O.map D.int).length i).map fun j => Ob.lst ((O.map D.int).set j (.int v))) = _
  rw [List.length_map, ixD_in h0 h1]
  show some (Ob.lst ((O.map D.int).set i.toNat (.int v))) = _
  rw [List.map_set]
theorem at_ints {O : List Int} {i : Int} (h0 : 0 ≤ i) (h1 : i < O.length) : atD (.lst (O.map .int)) (.int i) = some (.int (O.getD i.toNat 0)) := by
  show (ixD (O.map D.int).length i).bind (fun j => (O.map D.int)[j]?) = _
  rw [List.length_map, ixD_in h0 h1]
  show (O.map D.int)[i.toNat]? = _
  rw [List.getElem?_map, List.getElem?_eq_getElem (by omega), List.getD_eq_getElem?_getD, List.getElem?_eq_getElem (by omega)]
  rfl
/-! ### dicts of told things -/
section
variable {κ ν : Type} [DecidableEq κ]
def alook (x : κ) : List (κ × ν) → Option ν
  | [] => none
  | (k, v) :: r => if k = x then some v else alook x r
def aput (x : κ) (v : ν) (m : List (κ × ν)) : List (κ × ν) :=
  if (m.any fun p => decide (p.1 = x)) then m.map fun p => if p.1 = x then (p.1, v) else p else m ++ [(x, v)]
theorem alook_none {x : κ} : ∀ {m : List (κ × ν)}, (m.any fun p => decide (p.1 = x)) = false → alook x m = none
  | [], _ => rfl
  | (k, v) :: m, h => by
    rw [List.any_cons, Bool.or_eq_false_iff, decide_eq_false_iff_not] at h
    show (if k = x then some v else alook x m) = none
    rw [if_neg h.1]
    exact alook_none h.2
theorem alook_app {x y : κ} {v : ν} : ∀ {m : List (κ × ν)}, alook y (m ++ [(x, v)]) = match alook y m with | some u => some u | none => if x = y then some v else none
  | [] => rfl
  | (k, u) :: m => by
    show (if k = y then some u else alook y (m ++ [(x, v)])) = _
    rw [alook_app (m := m)]
    show _ = match (if k = y then some u else alook y m) with | some u => some u | none => if x = y then some v else none
    by_cases h : k = y
    · rw [if_pos h, if_pos h]
    · rw [if_neg h, if_neg h]
theorem alook_aput (x y : κ) (v : ν) (m : List (κ × ν)) : alook y (aput x v m) = if y = x then some v else alook y m := by
  unfold aput
  cases h : m.any fun p => decide (p.1 = x) with
  | false =>
    rw [if_neg (by decide), alook_app]
    by_cases e : y = x
    · subst e
      rw [alook_none h, if_pos rfl]
    · rw [if_neg e, if_neg (fun z => e z.symm)]
      cases alook y m <;> rfl
  | true =>
    rw [if_pos rfl]
    have : ∀ (m : List (κ × ν)), alook y (m.map fun p => if p.1 = x then (p.1, v) else p) = if y = x then (if (m.any fun p => decide (p.1 = x)) = true then some v else none) else alook y m := by
      intro m
      induction m with
      | nil => by_cases e : y = x <;> simp [alook, e]
      | cons p m ih =>
        obtain ⟨k, u⟩ := p
        rw [List.map_cons]
        by_cases hk : k = x
        · subst hk
          show alook y ((if k = k then (k, v) else (k, u)) :: _) = _
          rw [if_pos rfl]
          show (if k = y then some v else alook y _) = _
          by_cases e : y = k
          · subst e
            rw [if_pos rfl, if_pos rfl]
            simp
          · rw [if_neg (fun z => e z.symm), ih, if_neg e, if_neg e]
            show _ = if k = y then some u else alook y m
            rw [if_neg (fun z => e z.symm)]
        · show alook y ((if k = x then (k, v) else (k, u)) :: _) = _
          rw [if_neg hk]
          show (if k = y then some u else alook y _) = _
          rw [ih]
          by_cases e : y = x
          · subst e
            rw [if_neg hk, if_pos rfl, if_pos rfl, List.any_cons, decide_eq_false hk, Bool.false_or]
          · rw [if_neg e, if_neg e]
            rfl
    rw [this m, h, if_pos rfl]
theorem aput_len (x : κ) (v : ν) (m : List (κ × ν)) : (aput x v m).length ≤ m.length + 1 := by
  unfold aput
  split
  · rw [List.length_map]; omega
  · rw [List.length_append]; exact Nat.le_refl _
variable {kf : κ → D} {vf : ν → D} {k : Nat}
def encD (kf : κ → D) (vf : ν → D) (m : List (κ × ν)) : List (D × D) := m.map fun p => (kf p.1, vf p.2)
theorem dlook_enc (h : En kf k) (hk : k < 62) (x : κ) : ∀ (m : List (κ × ν)), dlook (kf x) (encD kf vf m) = (alook x m).map vf
  | [] => rfl
  | (y, v) :: m => by
    show (if eqvN 62 (kf y) (kf x) then some (vf v) else dlook (kf x) (encD kf vf m)) = (if y = x then some v else alook x m).map vf
    rw [h.eq y x 62 hk, dlook_enc h hk x m]
    by_cases e : y = x <;> simp [e]
theorem dput_enc (h : En kf k) (hk : k < 62) (x : κ) (v : ν) (m : List (κ × ν)) : dput (kf x) (vf v) (encD kf vf m) = encD kf vf (aput x v m) := by
  have h1 : ((encD kf vf m).any fun p => eqvN 62 p.1 (kf x)) = m.any fun p => decide (p.1 = x) := by
    unfold encD
    rw [List.any_map]
    congr 1
    funext p
    exact h.eq p.1 x 62 hk
  unfold dput aput
  rw [h1]
  split
  · unfold encD
    rw [List.map_map, List.map_map]
    refine List.map_congr_left fun p _ => ?_
    show (if eqvN 62 (kf p.1) (kf x) = true then (kf p.1, vf v) else (kf p.1, vf p.2)) = (kf (if p.1 = x then (p.1, v) else p).1, vf (if p.1 = x then (p.1, v) else p).2)
    rw [h.eq p.1 x 62 hk]
    by_cases e : p.1 = x
    · rw [if_pos e, if_pos (by simp [e])]
    · rw [if_neg e, if_neg (by simp [e])]
  · unfold encD
    rw [List.map_append]
    rfl
theorem encD_len (m : List (κ × ν)) : (encD kf vf m).length = m.length := List.length_map _
theorem setD_enc {kd : Bool} (h : En kf k) (hk : k < 62) {x : κ} {v : ν} {m : List (κ × ν)} (hx : keyD kd (kf x) = true) (hl : m.length < 16777216) : setOb (.dct kd (encD kf vf m)) (kf x) (vf v) = some (.dct kd (encD kf vf (aput x v m))) := by
  show (if (keyD kd (kf x) && decide ((encD kf vf m).length < LIM)) = true then some (Ob.dct kd (dput (kf x) (vf v) (encD kf vf m))) else none) = _
  rw [hx, encD_len, decide_eq_true (show m.length < LIM from hl), Bool.and_self, if_pos rfl, dput_enc h hk]
theorem atD_enc {kd : Bool} (h : En kf k) (hk : k < 62) {x : κ} {m : List (κ × ν)} (hx : keyD kd (kf x) = true) {v : ν} (hv : alook x m = some v) : atD (.dct kd (encD kf vf m)) (kf x) = some (vf v) := by
  show (if keyD kd (kf x) = true then dlook (kf x) (encD kf vf m) else none) = _
  rw [if_pos hx, dlook_enc h hk, hv]
  rfl
end
theorem bi_min1 {ns : List Int} {m : Int} (h : minL ns = some m) : biD .min1 [.lst (ns.map .int)] = some (.int m) := by
  show (intsD (ns.map .int)).bind _ = _
  rw [intsD_map]
  show (minL ns).map D.int = _
  rw [h]; rfl
theorem bi_max1 {ns : List Int} {m : Int} (h : maxL ns = some m) : biD .max1 [.lst (ns.map .int)] = some (.int m) := by
  show (intsD (ns.map .int)).bind _ = _
  rw [intsD_map]
  show (maxL ns).map D.int = _
  rw [h]; rfl
/-- cuts of a tuple of ints -/
theorem cut_ints {w : List Int} {lo hi : Int} (h0 : 0 ≤ lo) (h1 : lo ≤ hi) (h2 : hi ≤ w.length) : cutD (w.map D.int) (some lo) (some hi) = ((w.drop lo.toNat).take (hi - lo).toNat).map D.int := by
  have a : clipD (w.map D.int).length 0 (some lo) = lo.toNat := by
    unfold clipD
    rw [List.length_map]
    simp only
    rw [if_neg (by omega)]
    omega
  have b : clipD (w.map D.int).length (w.map D.int).length (some hi) = hi.toNat := by
    unfold clipD
    rw [List.length_map]
    simp only
    rw [if_neg (by omega)]
    omega
  unfold cutD
  rw [a, b, List.map_take, List.map_drop]
  congr 1
  omega
@[simp] theorem fr_ixr (i : Nat) (k : Ex) (d : D) : frX (.ixr i k) d = false := rfl
@[simp] theorem fr_bilen2 (a : Ex) (d : D) : frX (.bi .max1 a) d = false := rfl
@[simp] theorem fr_bimin1 (a : Ex) (d : D) : frX (.bi .min1 a) d = false := rfl
@[simp] theorem dispD_nil (k : Bool) : dispD k [] = some (.dct k []) := by cases k <;> rfl
@[simp] theorem ite_tf (c : Prop) [Decidable c] : (if c then true else false) = decide c := by by_cases h : c <;> simp [h]
@[simp] theorem ite_ft (c : Prop) [Decidable c] : (if c then false else true) = !decide c := by by_cases h : c <;> simp [h]
section
variable (F : Nat → List D → Sto → Res (D × Bool)) (Γ : Nat → D) (ρ : Rho) (st : Sto)
@[simp] theorem e_inr (n : Bool) (k : Ex) (i : Nat) : evE F Γ (.inr n k i) ρ st = (evE F Γ k ρ st).bind fun y st => (match get ρ i with
    | .v (.ref l) => (lift st[l]? st).bind fun o st => lift ((inO o y).map fun b => .bl (n != b)) st
    | _ => .bad) := rfl
@[simp] theorem e_share (e : Ex) : evE F Γ (.share e) ρ st = (evE F Γ e ρ st).bind fun d st => (match d with
      | .lst ds => .ok (.ref st.length) (st ++ [.lst ds])
      | .dct k kvs => .ok (.ref st.length) (st ++ [.dct k kvs])
      | _ => .bad) := rfl
end
@[simp] theorem fr_lvals (a : Ex) (d : D) : frX (.lvals a) d = true := rfl
@[simp] theorem fr_chain3 (o p q : Cop) (a b c e : Ex) (d : D) : frX (.chain3 o p q a b c e) d = false := rfl
theorem eqD_emp (a : List (D × D)) : eqD (.dct false a) (.dct false []) = some a.isEmpty := by
  show (if a.isEmpty || [].isEmpty then some (a.isEmpty && [].isEmpty) else none) = _
  simp
/-! ### comprehensions over written lists -/
theorem lcS_nil {F : Nat → List D → Sto → Res (D × Bool)} {Γ : Nat → D} {elt tests : Ex} {tg : Tg} {ρ : Rho} {st : Sto} : lcS F Γ elt tg tests ρ [] st = .ok (.lst []) st := rfl
theorem lcS_cons0 {F : Nat → List D → Sto → Res (D × Bool)} {Γ : Nat → D} {elt : Ex} {tg : Tg} {ρ : Rho} {st : Sto} {x : D} {xs : List D} (hl : xs.length + 1 ≤ 16777216) : lcS F Γ elt tg .nil ρ (x :: xs) st = (lift (bindT tg x ρ) st).bind fun ρ' st => (evE F Γ elt ρ' st).bind fun y st => (lcS F Γ elt tg .nil ρ xs st).bind fun r st => (match r with | .lst ys => .ok (.lst (y :: ys)) st | _ => .bad) := by
  unfold lcS
  rw [if_pos (show (x :: xs).length ≤ LIM from hl)]
  have hx : xs.length ≤ LIM := Nat.le_of_succ_le hl
  simp only [hx, if_true]
  show (((lift (bindT tg x ρ) st).bind fun ρ' st => Res.ok true st).bind fun b st => if b = true then (((lift (bindT tg x ρ) st).bind fun ρ' st => evE F Γ elt ρ' st).bind fun y st => (lcL _ _ xs st).bind fun ys st => Res.ok (y :: ys) st) else lcL _ _ xs st).bind (fun ys st => Res.ok (D.lst ys) st) = _
  cases bindT tg x ρ with
  | none => rfl
  | some ρ' =>
    simp only [lift_some, bind_ok', if_true]
    cases evE F Γ elt ρ' st with
    | bad => rfl
    | ok y st2 =>
      simp only [bind_ok']
      generalize lcL _ _ xs st2 = R
      cases R with
      | bad => rfl
      | ok ys st3 => rfl
end Ev
namespace Lw
open PySem PySem.Spec PyProof.Rows L2 Ev
abbrev RWL := PySem.Challenge.rw_halvelooks_k31_whole_sums_of_reads_by_we
abbrev PWL := PySem.Challenge.pw_halvelooks_k31_whole_sums_of_reads_by_we
def top (i : Nat) : Stmt := PWL.main.body.getD i (.Pass ⟨0, 0, 0, 0⟩)
abbrev B0 : Stm := (.seq (.ret (.and (.cons (.isi (.var 0) .int) (.cons (.not (.isi (.var 0) .bool)) (.cons (.chain .le .le (.var 1) (.var 0) (.var 2)) .nil))))) .skip)
def d0 : DefC := ⟨"is_between", top 12, ["value", "low", "high"], ⟨3, 3, B0⟩⟩
abbrev B1 : Stm := (.seq (.ite (.or (.cons (.not (.isi (.var 0) .tuple)) (.cons (.cmp .ne (.bi .len (.cons (.var 0) .nil)) (.cint 4)) (.cons (.not (.bi .all (.cons (.lc (.isi (.var 1) .str) (.one 1) (.seq (.var 0)) .nil) .nil))) .nil)))) (.seq (.ret (.cbl false)) .skip) .skip) (.seq (.ret (.and (.cons (.cmp .isin (.ix (.var 0) (.cint 0)) (.glob 1)) (.cons (.cmp .isin (.ix (.var 0) (.cint 1)) (.glob 2)) (.cons (.cmp .isin (.ix (.var 0) (.cint 2)) (.glob 3)) (.cons (.cmp .isin (.ix (.var 0) (.cint 3)) (.glob 4)) .nil)))))) .skip))
def d1 : DefC := ⟨"is_way", top 13, ["value", "part"], ⟨1, 2, B1⟩⟩
abbrev B2 : Stm := (.seq (.ite (.not (.call 1 (.cons (.var 0) .nil))) (.seq .never .skip) .skip) .skip)
def d2 : DefC := ⟨"need_way", top 14, ["way"], ⟨1, 1, B2⟩⟩
abbrev B3 : Stm := (.seq (.ret (.ife (.cmp .eq (.ix (.var 0) (.cint 0)) (.cstr "low")) (.bin .fdiv (.bin .sub (.bin .add (.var 1) (.var 2)) (.cint 1)) (.cint 2)) (.bin .fdiv (.bin .add (.var 1) (.var 2)) (.cint 2)))) .skip)
def d3 : DefC := ⟨"middle_of", top 15, ["way", "low", "high"], ⟨3, 3, B3⟩⟩
abbrev B4 : Stm := (.seq (.ite (.not (.call 0 (.cons (.var 0) (.cons (.cint 0) (.cons (.var 1) .nil))))) (.seq .never .skip) .skip) .skip)
def d4 : DefC := ⟨"need_size", top 18, ["size", "most"], ⟨2, 2, B4⟩⟩
abbrev B5 : Stm := (.seq (.ite (.not (.call 0 (.cons (.var 1) (.cons (.cint 0) (.cons (.bin .sub (.var 0) (.cint 1)) .nil))))) (.seq .never .skip) .skip) .skip)
def d5 : DefC := ⟨"need_place", top 19, ["size", "place"], ⟨2, 2, B5⟩⟩
abbrev B6 : Stm := (.seq (.pasg [3, 4, 5] [false, false, false] (.cons (.cint 0) (.cons (.var 1) (.cons (.tup .nil) .nil)))) (.seq (.whl (.cbl true) (.seq (.asg 6 (.call 3 (.cons (.var 0) (.cons (.var 3) (.cons (.var 4) .nil))))) (.seq (.asg 5 (.bin .add (.var 5) (.tup (.cons (.var 6) .nil)))) (.seq (.ite (.cmp .eq (.var 6) (.var 2)) (.seq (.ret (.tup (.cons (.var 5) (.cons (.var 3) (.cons (.var 4) .nil))))) .skip) .skip) (.seq (.ite (.cmp .lt (.var 6) (.var 2)) (.seq (.asg 3 (.bin .add (.var 6) (.cint 1))) .skip) (.seq (.asg 4 (.var 6)) .skip)) .skip))))) .skip))
def d6 : DefC := ⟨"path_and_ends", top 20, ["way", "size", "place", "low", "high", "found", "middle"], ⟨3, 7, B6⟩⟩
abbrev B7 : Stm := (.seq (.exp (.call 2 (.cons (.var 0) .nil))) (.seq (.exp (.call 4 (.cons (.var 1) (.cons (.glob 5) .nil)))) (.seq (.exp (.call 5 (.cons (.var 1) (.cons (.var 2) .nil)))) (.seq (.ret (.bi .len (.cons (.ix (.call 6 (.cons (.var 0) (.cons (.var 1) (.cons (.var 2) .nil)))) (.cint 0)) .nil))) .skip))))
def d7 : DefC := ⟨"depth", top 21, ["way", "size", "place"], ⟨3, 3, B7⟩⟩
abbrev B8 : Stm := (.seq (.pasg [2, 3] [true, false] (.cons (.list .nil) (.cons (.dict false (.cons (.var 1) (.cons (.cint 1) .nil))) .nil))) (.seq (.whl (.cmp .ne (.var 3) (.dict false .nil)) (.seq (.app 2 (.var 3)) (.seq (.asgo 4 (.dict false .nil)) (.seq (.forin (.many [5, 6]) (.items (.var 3)) (.seq (.asg 7 (.call 3 (.cons (.var 0) (.cons (.cint 0) (.cons (.var 5) .nil))))) (.seq (.forin (.one 8) (.seq (.tup (.cons (.var 7) (.cons (.bin .sub (.bin .sub (.var 5) (.cint 1)) (.var 7)) .nil)))) (.seq (.ite (.cmp .gt (.var 8) (.cint 0)) (.seq (.setix 4 (.var 8) (.bin .add (.dget 4 (.var 8) (.cint 0)) (.var 6))) .skip) .skip) .skip)) .skip))) (.seq (.fz 4) (.seq (.asg 3 (.var 4)) .skip)))))) (.seq (.ret (.own 2)) .skip)))
def d8 : DefC := ⟨"levels_of", top 22, ["way", "size", "found", "level", "later", "rows", "count", "middle", "half"], ⟨2, 9, B8⟩⟩
abbrev B9 : Stm := (.seq (.ite (.or (.cons (.not (.isi (.var 0) .tuple)) (.cons (.not (.chain .le .le (.cint 1) (.bi .len (.cons (.var 0) .nil)) (.glob 0))) .nil))) (.seq .never .skip) .skip) (.seq (.ite (.not (.bi .all (.cons (.lc (.call 0 (.cons (.var 1) (.cons (.cint 0) (.cons (.glob 6) .nil)))) (.one 1) (.seq (.var 0)) .nil) .nil))) (.seq .never .skip) .skip) .skip))
def d9 : DefC := ⟨"need_weights", top 25, ["weights", "weight"], ⟨1, 2, B9⟩⟩
abbrev B10 : Stm := (.seq (.exp (.call 2 (.cons (.var 0) .nil))) (.seq (.exp (.call 9 (.cons (.var 1) .nil))) (.seq (.asg 2 (.bi .len (.cons (.var 1) .nil))) (.seq (.ret (.bi .sum (.cons (.lc (.bin .mul (.var 4) (.bi .len (.cons (.ix (.call 6 (.cons (.var 0) (.cons (.var 2) (.cons (.var 3) .nil)))) (.cint 0)) .nil))) (.many [3, 4]) (.enu (.var 1)) .nil) .nil))) .skip))))
def d10 : DefC := ⟨"reads_of", top 26, ["way", "weights", "size", "place", "weight"], ⟨2, 5, B10⟩⟩
abbrev B11 : Stm := (.seq (.pasg [1, 2] [false, true] (.cons (.bi .len (.cons (.var 0) .nil)) (.cons (.dict true .nil) .nil))) (.seq (.forin (.one 3) (.rng (.cons (.bin .add (.var 1) (.cint 1)) .nil)) (.seq (.setix 2 (.tup (.cons (.var 3) (.cons (.var 3) .nil))) (.cint 0)) .skip)) (.seq (.forin (.one 4) (.rng (.cons (.cint 1) (.cons (.bin .add (.var 1) (.cint 1)) .nil))) (.seq (.forin (.one 3) (.rng (.cons (.bin .add (.bin .sub (.var 1) (.var 4)) (.cint 1)) .nil)) (.seq (.asg 5 (.bin .add (.var 3) (.var 4))) (.seq (.asg 6 (.lc (.bin .add (.ix (.bor 2) (.tup (.cons (.var 3) (.cons (.var 7) .nil)))) (.ix (.bor 2) (.tup (.cons (.bin .add (.var 7) (.cint 1)) (.cons (.var 5) .nil))))) (.one 7) (.rng (.cons (.var 3) (.cons (.var 5) .nil))) .nil)) (.seq (.setix 2 (.tup (.cons (.var 3) (.cons (.var 5) .nil))) (.bin .add (.bi .sum (.cons (.sl (.var 0) (.var 3) (.var 5)) .nil)) (.bi .min1 (.cons (.var 6) .nil)))) .skip)))) .skip)) (.seq (.ret (.own 2)) .skip))))
def d11 : DefC := ⟨"best_sums", top 27, ["weights", "size", "found", "low", "rows", "high", "some", "first"], ⟨1, 8, B11⟩⟩
abbrev B12 : Stm := (.seq (.exp (.call 9 (.cons (.var 0) .nil))) (.seq (.ret (.ix (.call 11 (.cons (.var 0) .nil)) (.tup (.cons (.cint 0) (.cons (.bi .len (.cons (.var 0) .nil)) .nil))))) .skip))
def d12 : DefC := ⟨"least_reads", top 28, ["weights"], ⟨1, 1, B12⟩⟩
abbrev B13 : Stm := (.seq (.exp (.call 2 (.cons (.var 0) .nil))) (.seq (.exp (.call 4 (.cons (.var 1) (.cons (.glob 5) .nil)))) (.seq (.asg 2 (.ife (.cmp .gt (.var 1) (.cint 0)) (.call 8 (.cons (.var 0) (.cons (.var 1) .nil))) (.list .nil))) (.seq (.ret (.bi .sum (.cons (.lc (.bin .mul (.bin .add (.var 3) (.cint 1)) (.bi .sum (.cons (.lvals (.var 4)) .nil))) (.many [3, 4]) (.enu (.var 2)) .nil) .nil))) .skip))))
def d13 : DefC := ⟨"sum_reads", top 30, ["way", "size", "levels", "index", "level"], ⟨2, 5, B13⟩⟩
abbrev B14 : Stm := (.seq (.asg 2 (.cint 0)) (.seq (.ite (.cmp .lt (.var 1) (.bi .len (.cons (.var 0) .nil))) (.seq (.asg 2 (.bi .abs (.cons (.ix (.var 0) (.var 1)) .nil))) .skip) .skip) (.seq (.ite (.cmp .lt (.var 2) (.bin .pow (.cint 10) (.cint 18))) (.seq (.ret (.list (.cons (.cint 0) (.cons (.bin .add (.cint 1) (.bin .mod (.bi .int (.cons (.bin .add (.bin .mul (.var 2) (.cint 7919)) (.bin .mul (.cint 104729) (.var 1))) .nil)) (.cint 2147483646))) .nil)))) .skip) .skip) (.seq (.ret (.list (.cons (.var 2) (.cons (.bin .add (.cint 1) (.bin .mod (.bi .int (.cons (.bin .add (.var 2) (.var 1)) .nil)) (.cint 2147483646))) .nil)))) .skip))))
def d14 : DefC := ⟨"_law_source", top 32, ["script", "index", "cell"], ⟨2, 3, B14⟩⟩
abbrev B15 : Stm := (.seq (.ite (.cmp .gt (.ixr 0 (.cint 0)) (.cint 0)) (.seq (.asg 2 (.bin .mod (.bi .int (.cons (.ixr 0 (.cint 0)) .nil)) (.var 1))) (.seq (.setix 0 (.cint 0) (.bin .fdiv (.ixr 0 (.cint 0)) (.var 1))) (.seq (.ret (.var 2)) .skip))) .skip) (.seq (.setix 0 (.cint 1) (.bin .mod (.bi .int (.cons (.bin .mul (.ixr 0 (.cint 1)) (.cint 48271)) .nil)) (.cint 2147483647))) (.seq (.ret (.bin .mod (.bi .int (.cons (.bin .fdiv (.bin .mod (.bi .int (.cons (.bin .mul (.ixr 0 (.cint 1)) (.ixr 0 (.cint 1))) .nil)) (.cint 2147483629)) (.cint 64)) .nil)) (.var 1))) .skip)))
def d15 : DefC := ⟨"_law_draw", top 33, ["source", "size", "drawn"], ⟨2, 3, B15⟩⟩
abbrev B16 : Stm := (.seq (.ret (.ix (.var 1) (.call 15 (.cons (.var 0) (.cons (.bi .len (.cons (.var 1) .nil)) .nil))))) .skip)
def d16 : DefC := ⟨"_law_choice", top 34, ["source", "items"], ⟨2, 2, B16⟩⟩
abbrev B17 : Stm := (.seq (.pasg [1, 2] [false, false] (.cons (.call 16 (.cons (.var 0) (.cons (.list (.cons (.cstr "low") (.cons (.cstr "high") .nil))) .nil))) (.cons (.call 16 (.cons (.var 0) (.cons (.list (.cons (.cstr "left") (.cons (.cstr "right") (.cons (.cstr "stop") .nil)))) .nil))) .nil))) (.seq (.asg 3 (.call 16 (.cons (.var 0) (.cons (.list (.cons (.cstr "place") (.cons (.cstr "exact") (.cons (.cstr "below") (.cons (.cstr "above") .nil))))) .nil)))) (.seq (.ret (.tup (.cons (.var 1) (.cons (.var 2) (.cons (.call 16 (.cons (.var 0) (.cons (.list (.cons (.cstr "left") (.cons (.cstr "right") .nil))) .nil))) (.cons (.var 3) .nil)))))) .skip)))
def d17 : DefC := ⟨"_law_way", top 35, ["source", "middle", "equal", "answer"], ⟨1, 4, B17⟩⟩
abbrev B18 : Stm := (.seq (.ite (.cmp .eq (.var 1) (.var 2)) (.seq (.ret (.list .nil)) .skip) .skip) (.seq (.asg 3 (.ife (.cmp .eq (.ix (.var 0) (.cint 0)) (.cstr "low")) (.bin .fdiv (.bin .sub (.bin .add (.var 1) (.var 2)) (.cint 1)) (.cint 2)) (.bin .fdiv (.bin .add (.var 1) (.var 2)) (.cint 2)))) (.seq (.pasg [4, 5] [false, false] (.cons (.call 18 (.cons (.var 0) (.cons (.var 1) (.cons (.var 3) .nil)))) (.cons (.call 18 (.cons (.var 0) (.cons (.bin .add (.var 3) (.cint 1)) (.cons (.var 2) .nil)))) .nil))) (.seq (.ret (.bin .add (.bin .add (.lc (.bin .add (.var 6) (.cint 1)) (.one 6) (.seq (.var 4)) .nil) (.list (.cons (.cint 1) .nil))) (.lc (.bin .add (.var 6) (.cint 1)) (.one 6) (.seq (.var 5)) .nil))) .skip))))
def d18 : DefC := ⟨"_law_depths", top 36, ["way", "low", "high", "middle", "left", "right", "one"], ⟨3, 7, B18⟩⟩
abbrev B19 : Stm := (.seq (.forin (.one 1) (.rng (.cons (.bin .add (.cint 1) (.bi .min2 (.cons (.bi .len (.cons (.var 0) .nil)) (.cons (.cint 10) .nil)))) .nil)) (.seq (.asgo 2 (.call 14 (.cons (.var 0) (.cons (.var 1) .nil)))) (.seq (.shr 2) (.seq (.forin (.one 3) (.rng (.cons (.cint 4) .nil)) (.seq (.pasg [4, 5] [false, false] (.cons (.call 17 (.cons (.var 2) .nil)) (.cons (.bin .add (.cint 1) (.call 15 (.cons (.var 2) (.cons (.cint 12) .nil)))) .nil))) (.seq (.asg 6 (.call 16 (.cons (.var 2) (.cons (.list (.cons (.cint 2) (.cons (.cint 10) (.cons (.bin .add (.bin .pow (.cint 10) (.cint 6)) (.cint 1)) .nil)))) .nil)))) (.seq (.asg 7 (.bi .tuple (.cons (.lc (.call 15 (.cons (.var 2) (.cons (.var 6) .nil))) (.one 8) (.rng (.cons (.var 5) .nil)) .nil) .nil))) (.seq (.asg 9 (.call 18 (.cons (.var 4) (.cons (.cint 0) (.cons (.var 5) .nil))))) (.seq (.ite (.cmp .ne (.call 10 (.cons (.var 4) (.cons (.var 7) .nil))) (.bi .sum (.cons (.lc (.bin .mul (.var 10) (.var 11)) (.many [10, 11]) (.zip (.var 7) (.var 9)) .nil) .nil))) (.seq (.ret (.cbl false)) .skip) .skip) (.seq (.ite (.cmp .ne (.lc (.call 7 (.cons (.var 4) (.cons (.var 5) (.cons (.var 8) .nil)))) (.one 8) (.rng (.cons (.var 5) .nil)) .nil) (.var 9)) (.seq (.ret (.cbl false)) .skip) .skip) (.seq (.asg 11 (.bi .tuple (.cons (.lc (.bi .min2 (.cons (.bin .pow (.cint 10) (.cint 6)) (.cons (.bin .add (.var 12) (.cint 1)) .nil))) (.one 12) (.seq (.var 7)) .nil) .nil))) (.seq (.asg 13 (.bin .add (.call 10 (.cons (.var 4) (.cons (.var 7) .nil))) (.call 13 (.cons (.var 4) (.cons (.var 5) .nil))))) (.seq (.ite (.and (.cons (.cmp .lt (.var 6) (.cint 100)) (.cons (.cmp .ne (.call 10 (.cons (.var 4) (.cons (.var 11) .nil))) (.var 13)) .nil))) (.seq (.ret (.cbl false)) .skip) .skip) (.seq (.ite (.cmp .ne (.list (.cons (.call 10 (.cons (.var 4) (.cons (.bin .mul (.tup (.cons (.cint 1) .nil)) (.var 5)) .nil))) (.cons (.call 12 (.cons (.bin .mul (.tup (.cons (.cint 1) .nil)) (.var 5)) .nil)) .nil))) (.bin .mul (.list (.cons (.call 13 (.cons (.var 4) (.cons (.var 5) .nil))) .nil)) (.cint 2))) (.seq (.ret (.cbl false)) .skip) .skip) (.seq (.asg 14 (.bin .add (.cint 1) (.call 15 (.cons (.var 2) (.cons (.bin .pow (.cint 10) (.cint 6)) .nil))))) (.seq (.ite (.cmp .ne (.call 12 (.cons (.bin .mul (.tup (.cons (.var 14) .nil)) (.var 5)) .nil)) (.call 10 (.cons (.var 4) (.cons (.bin .mul (.tup (.cons (.var 14) .nil)) (.var 5)) .nil)))) (.seq (.ret (.cbl false)) .skip) .skip) (.seq (.ite (.cmp .gt (.call 12 (.cons (.var 7) .nil)) (.call 10 (.cons (.var 4) (.cons (.var 7) .nil)))) (.seq (.ret (.cbl false)) .skip) .skip) .skip)))))))))))))) .skip)))) (.seq (.pasg [10, 15] [false, false] (.cons (.tup (.cons (.cstr "low") (.cons (.cstr "left") (.cons (.cstr "left") (.cons (.cstr "exact") .nil))))) (.cons (.tup (.cons (.cstr "high") (.cons (.cstr "right") (.cons (.cstr "left") (.cons (.cstr "exact") .nil))))) .nil))) (.seq (.ite (.cmp .ne (.lc (.call 10 (.cons (.var 10) (.cons (.var 7) .nil))) (.one 7) (.seq (.list (.cons (.tup (.cons (.cint 10) (.cons (.cint 1) (.cons (.cint 1) .nil)))) (.cons (.tup (.cons (.cint 10) (.cons (.cint 1) .nil))) (.cons (.bin .mul (.tup (.cons (.cint 1) .nil)) (.cint 5)) .nil))))) .nil) (.list (.cons (.cint 23) (.cons (.cint 12) (.cons (.cint 11) .nil))))) (.seq (.ret (.cbl false)) .skip) .skip) (.seq (.ite (.cmp .ne (.call 10 (.cons (.var 15) (.cons (.tup (.cons (.cint 10) (.cons (.cint 1) .nil))) .nil))) (.cint 21)) (.seq (.ret (.cbl false)) .skip) .skip) (.seq (.ret (.and (.cons (.cmp .eq (.call 10 (.cons (.var 10) (.cons (.tup (.cons (.bin .pow (.cint 10) (.cint 6)) .nil)) .nil))) (.bin .pow (.cint 10) (.cint 6))) (.cons (.cmp .eq (.call 10 (.cons (.var 15) (.cons (.bin .mul (.tup (.cons (.cint 0) .nil)) (.cint 12)) .nil))) (.cint 0)) .nil)))) .skip)))))
def d19 : DefC := ⟨"law", top 37, ["script", "k", "source", "turn", "way", "size", "most", "weights", "place", "depths", "one", "other", "weight", "more", "equal", "two"], ⟨1, 16, B19⟩⟩
def gs : List (Str × Gv) := [("MOST_ROWS", .int 12), ("MIDDLES", .tup ["high", "low"]), ("EQUALS", .tup ["left", "right", "stop"]), ("GAPS", .tup ["left", "right"]), ("ANSWERS", .tup ["above", "below", "exact", "place"]), ("FAR", .int 1000000000000000), ("MOST_WEIGHT", .int 1000000)]
abbrev i_is_between : Nat := 0
abbrev i_is_way : Nat := 1
abbrev i_need_way : Nat := 2
abbrev i_middle_of : Nat := 3
abbrev i_need_size : Nat := 4
abbrev i_need_place : Nat := 5
abbrev i_path_and_ends : Nat := 6
abbrev i_depth : Nat := 7
abbrev i_levels_of : Nat := 8
abbrev i_need_weights : Nat := 9
abbrev i_reads_of : Nat := 10
abbrev i_best_sums : Nat := 11
abbrev i_least_reads : Nat := 12
abbrev i_sum_reads : Nat := 13
abbrev i__law_source : Nat := 14
abbrev i__law_draw : Nat := 15
abbrev i__law_choice : Nat := 16
abbrev i__law_way : Nat := 17
abbrev i__law_depths : Nat := 18
abbrev i_law : Nat := 19
abbrev g_MOST_ROWS : Nat := 0
abbrev g_MIDDLES : Nat := 1
abbrev g_EQUALS : Nat := 2
abbrev g_GAPS : Nat := 3
abbrev g_ANSWERS : Nat := 4
abbrev g_FAR : Nat := 5
abbrev g_MOST_WEIGHT : Nat := 6
def md : Md := ⟨[d0, d1, d2, d3, d4, d5, d6, d7, d8, d9, d10, d11, d12, d13, d14, d15, d16, d17, d18, d19], gs⟩
theorem at_is_between : md.defs[i_is_between]? = some d0 := rfl
theorem at_is_way : md.defs[i_is_way]? = some d1 := rfl
theorem at_need_way : md.defs[i_need_way]? = some d2 := rfl
theorem at_middle_of : md.defs[i_middle_of]? = some d3 := rfl
theorem at_need_size : md.defs[i_need_size]? = some d4 := rfl
theorem at_need_place : md.defs[i_need_place]? = some d5 := rfl
theorem at_path_and_ends : md.defs[i_path_and_ends]? = some d6 := rfl
theorem at_depth : md.defs[i_depth]? = some d7 := rfl
theorem at_levels_of : md.defs[i_levels_of]? = some d8 := rfl
theorem at_need_weights : md.defs[i_need_weights]? = some d9 := rfl
theorem at_reads_of : md.defs[i_reads_of]? = some d10 := rfl
theorem at_best_sums : md.defs[i_best_sums]? = some d11 := rfl
theorem at_least_reads : md.defs[i_least_reads]? = some d12 := rfl
theorem at_sum_reads : md.defs[i_sum_reads]? = some d13 := rfl
theorem at__law_source : md.defs[i__law_source]? = some d14 := rfl
theorem at__law_draw : md.defs[i__law_draw]? = some d15 := rfl
theorem at__law_choice : md.defs[i__law_choice]? = some d16 := rfl
theorem at__law_way : md.defs[i__law_way]? = some d17 := rfl
theorem at__law_depths : md.defs[i__law_depths]? = some d18 := rfl
theorem at_law : md.defs[i_law]? = some d19 := rfl
theorem go_is_between {n : Nat} {a0 a1 a2 : D} {st : Sto} {P : D × Bool → Sto → Prop} (h : Ok (evS (FF md.Δ md.Γ n) md.Γ B0 [.v a0, .v a1, .v a2] st) (Ev.Fin P)) : Ok (FF md.Δ md.Γ (n + 1) i_is_between [a0, a1, a2] st) P := FF_Ok at_is_between rfl h
theorem go_is_way {n : Nat} {a0 : D} {st : Sto} {P : D × Bool → Sto → Prop} (h : Ok (evS (FF md.Δ md.Γ n) md.Γ B1 [.v a0, .un] st) (Ev.Fin P)) : Ok (FF md.Δ md.Γ (n + 1) i_is_way [a0] st) P := FF_Ok at_is_way rfl h
theorem go_need_way {n : Nat} {a0 : D} {st : Sto} {P : D × Bool → Sto → Prop} (h : Ok (evS (FF md.Δ md.Γ n) md.Γ B2 [.v a0] st) (Ev.Fin P)) : Ok (FF md.Δ md.Γ (n + 1) i_need_way [a0] st) P := FF_Ok at_need_way rfl h
theorem go_middle_of {n : Nat} {a0 a1 a2 : D} {st : Sto} {P : D × Bool → Sto → Prop} (h : Ok (evS (FF md.Δ md.Γ n) md.Γ B3 [.v a0, .v a1, .v a2] st) (Ev.Fin P)) : Ok (FF md.Δ md.Γ (n + 1) i_middle_of [a0, a1, a2] st) P := FF_Ok at_middle_of rfl h
theorem go_need_size {n : Nat} {a0 a1 : D} {st : Sto} {P : D × Bool → Sto → Prop} (h : Ok (evS (FF md.Δ md.Γ n) md.Γ B4 [.v a0, .v a1] st) (Ev.Fin P)) : Ok (FF md.Δ md.Γ (n + 1) i_need_size [a0, a1] st) P := FF_Ok at_need_size rfl h
theorem go_need_place {n : Nat} {a0 a1 : D} {st : Sto} {P : D × Bool → Sto → Prop} (h : Ok (evS (FF md.Δ md.Γ n) md.Γ B5 [.v a0, .v a1] st) (Ev.Fin P)) : Ok (FF md.Δ md.Γ (n + 1) i_need_place [a0, a1] st) P := FF_Ok at_need_place rfl h
theorem go_path_and_ends {n : Nat} {a0 a1 a2 : D} {st : Sto} {P : D × Bool → Sto → Prop} (h : Ok (evS (FF md.Δ md.Γ n) md.Γ B6 [.v a0, .v a1, .v a2, .un, .un, .un, .un] st) (Ev.Fin P)) : Ok (FF md.Δ md.Γ (n + 1) i_path_and_ends [a0, a1, a2] st) P := FF_Ok at_path_and_ends rfl h
theorem go_depth {n : Nat} {a0 a1 a2 : D} {st : Sto} {P : D × Bool → Sto → Prop} (h : Ok (evS (FF md.Δ md.Γ n) md.Γ B7 [.v a0, .v a1, .v a2] st) (Ev.Fin P)) : Ok (FF md.Δ md.Γ (n + 1) i_depth [a0, a1, a2] st) P := FF_Ok at_depth rfl h
theorem go_levels_of {n : Nat} {a0 a1 : D} {st : Sto} {P : D × Bool → Sto → Prop} (h : Ok (evS (FF md.Δ md.Γ n) md.Γ B8 [.v a0, .v a1, .un, .un, .un, .un, .un, .un, .un] st) (Ev.Fin P)) : Ok (FF md.Δ md.Γ (n + 1) i_levels_of [a0, a1] st) P := FF_Ok at_levels_of rfl h
theorem go_need_weights {n : Nat} {a0 : D} {st : Sto} {P : D × Bool → Sto → Prop} (h : Ok (evS (FF md.Δ md.Γ n) md.Γ B9 [.v a0, .un] st) (Ev.Fin P)) : Ok (FF md.Δ md.Γ (n + 1) i_need_weights [a0] st) P := FF_Ok at_need_weights rfl h
theorem go_reads_of {n : Nat} {a0 a1 : D} {st : Sto} {P : D × Bool → Sto → Prop} (h : Ok (evS (FF md.Δ md.Γ n) md.Γ B10 [.v a0, .v a1, .un, .un, .un] st) (Ev.Fin P)) : Ok (FF md.Δ md.Γ (n + 1) i_reads_of [a0, a1] st) P := FF_Ok at_reads_of rfl h
theorem go_best_sums {n : Nat} {a0 : D} {st : Sto} {P : D × Bool → Sto → Prop} (h : Ok (evS (FF md.Δ md.Γ n) md.Γ B11 [.v a0, .un, .un, .un, .un, .un, .un, .un] st) (Ev.Fin P)) : Ok (FF md.Δ md.Γ (n + 1) i_best_sums [a0] st) P := FF_Ok at_best_sums rfl h
theorem go_least_reads {n : Nat} {a0 : D} {st : Sto} {P : D × Bool → Sto → Prop} (h : Ok (evS (FF md.Δ md.Γ n) md.Γ B12 [.v a0] st) (Ev.Fin P)) : Ok (FF md.Δ md.Γ (n + 1) i_least_reads [a0] st) P := FF_Ok at_least_reads rfl h
theorem go_sum_reads {n : Nat} {a0 a1 : D} {st : Sto} {P : D × Bool → Sto → Prop} (h : Ok (evS (FF md.Δ md.Γ n) md.Γ B13 [.v a0, .v a1, .un, .un, .un] st) (Ev.Fin P)) : Ok (FF md.Δ md.Γ (n + 1) i_sum_reads [a0, a1] st) P := FF_Ok at_sum_reads rfl h
theorem go__law_source {n : Nat} {a0 a1 : D} {st : Sto} {P : D × Bool → Sto → Prop} (h : Ok (evS (FF md.Δ md.Γ n) md.Γ B14 [.v a0, .v a1, .un] st) (Ev.Fin P)) : Ok (FF md.Δ md.Γ (n + 1) i__law_source [a0, a1] st) P := FF_Ok at__law_source rfl h
theorem go__law_draw {n : Nat} {a0 a1 : D} {st : Sto} {P : D × Bool → Sto → Prop} (h : Ok (evS (FF md.Δ md.Γ n) md.Γ B15 [.v a0, .v a1, .un] st) (Ev.Fin P)) : Ok (FF md.Δ md.Γ (n + 1) i__law_draw [a0, a1] st) P := FF_Ok at__law_draw rfl h
theorem go__law_choice {n : Nat} {a0 a1 : D} {st : Sto} {P : D × Bool → Sto → Prop} (h : Ok (evS (FF md.Δ md.Γ n) md.Γ B16 [.v a0, .v a1] st) (Ev.Fin P)) : Ok (FF md.Δ md.Γ (n + 1) i__law_choice [a0, a1] st) P := FF_Ok at__law_choice rfl h
theorem go__law_way {n : Nat} {a0 : D} {st : Sto} {P : D × Bool → Sto → Prop} (h : Ok (evS (FF md.Δ md.Γ n) md.Γ B17 [.v a0, .un, .un, .un] st) (Ev.Fin P)) : Ok (FF md.Δ md.Γ (n + 1) i__law_way [a0] st) P := FF_Ok at__law_way rfl h
theorem go__law_depths {n : Nat} {a0 a1 a2 : D} {st : Sto} {P : D × Bool → Sto → Prop} (h : Ok (evS (FF md.Δ md.Γ n) md.Γ B18 [.v a0, .v a1, .v a2, .un, .un, .un, .un] st) (Ev.Fin P)) : Ok (FF md.Δ md.Γ (n + 1) i__law_depths [a0, a1, a2] st) P := FF_Ok at__law_depths rfl h
theorem go_law {n : Nat} {a0 : D} {st : Sto} {P : D × Bool → Sto → Prop} (h : Ok (evS (FF md.Δ md.Γ n) md.Γ B19 [.v a0, .un, .un, .un, .un, .un, .un, .un, .un, .un, .un, .un, .un, .un, .un, .un] st) (Ev.Fin P)) : Ok (FF md.Δ md.Γ (n + 1) i_law [a0] st) P := FF_Ok at_law rfl h
-- HEAD
theorem ok0 : md.ok1 d0 = true := by decide +kernel
theorem ok1 : md.ok1 d1 = true := by decide +kernel
theorem ok2 : md.ok1 d2 = true := by decide +kernel
theorem ok3 : md.ok1 d3 = true := by decide +kernel
theorem ok4 : md.ok1 d4 = true := by decide +kernel
theorem ok5 : md.ok1 d5 = true := by decide +kernel
theorem ok6 : md.ok1 d6 = true := by decide +kernel
theorem ok7 : md.ok1 d7 = true := by decide +kernel
theorem ok8 : md.ok1 d8 = true := by decide +kernel
theorem ok9 : md.ok1 d9 = true := by decide +kernel
theorem ok10 : md.ok1 d10 = true := by decide +kernel
theorem ok11 : md.ok1 d11 = true := by decide +kernel
theorem ok12 : md.ok1 d12 = true := by decide +kernel
theorem ok13 : md.ok1 d13 = true := by decide +kernel
theorem ok14 : md.ok1 d14 = true := by decide +kernel
theorem ok15 : md.ok1 d15 = true := by decide +kernel
theorem ok16 : md.ok1 d16 = true := by decide +kernel
theorem ok17 : md.ok1 d17 = true := by decide +kernel
theorem ok18 : md.ok1 d18 = true := by decide +kernel
theorem ok19 : md.ok1 d19 = true := by decide +kernel
theorem ok : md.defs.all md.ok1 = true := by
  show [d0, d1, d2, d3, d4, d5, d6, d7, d8, d9, d10, d11, d12, d13, d14, d15, d16, d17, d18, d19].all md.ok1 = true
  simp only [List.all_cons, List.all_nil, ok0, ok1, ok2, ok3, ok4, ok5, ok6, ok7, ok8, ok9, ok10, ok11, ok12, ok13, ok14, ok15, ok16, ok17, ok18, ok19, Bool.and_self]
theorem b0 : Bd d0 := fun _ _ _ _ _ _ us hl => match us, hl with | [_, _, _], _ => rfl
theorem b1 : Bd d1 := fun _ _ _ _ _ _ us hl => match us, hl with | [_], _ => rfl
theorem b2 : Bd d2 := fun _ _ _ _ _ _ us hl => match us, hl with | [_], _ => rfl
theorem b3 : Bd d3 := fun _ _ _ _ _ _ us hl => match us, hl with | [_, _, _], _ => rfl
theorem b4 : Bd d4 := fun _ _ _ _ _ _ us hl => match us, hl with | [_, _], _ => rfl
theorem b5 : Bd d5 := fun _ _ _ _ _ _ us hl => match us, hl with | [_, _], _ => rfl
theorem b6 : Bd d6 := fun _ _ _ _ _ _ us hl => match us, hl with | [_, _, _], _ => rfl
theorem b7 : Bd d7 := fun _ _ _ _ _ _ us hl => match us, hl with | [_, _, _], _ => rfl
theorem b8 : Bd d8 := fun _ _ _ _ _ _ us hl => match us, hl with | [_, _], _ => rfl
theorem b9 : Bd d9 := fun _ _ _ _ _ _ us hl => match us, hl with | [_], _ => rfl
theorem b10 : Bd d10 := fun _ _ _ _ _ _ us hl => match us, hl with | [_, _], _ => rfl
theorem b11 : Bd d11 := fun _ _ _ _ _ _ us hl => match us, hl with | [_], _ => rfl
theorem b12 : Bd d12 := fun _ _ _ _ _ _ us hl => match us, hl with | [_], _ => rfl
theorem b13 : Bd d13 := fun _ _ _ _ _ _ us hl => match us, hl with | [_, _], _ => rfl
theorem b14 : Bd d14 := fun _ _ _ _ _ _ us hl => match us, hl with | [_, _], _ => rfl
theorem b15 : Bd d15 := fun _ _ _ _ _ _ us hl => match us, hl with | [_, _], _ => rfl
theorem b16 : Bd d16 := fun _ _ _ _ _ _ us hl => match us, hl with | [_, _], _ => rfl
theorem b17 : Bd d17 := fun _ _ _ _ _ _ us hl => match us, hl with | [_], _ => rfl
theorem b18 : Bd d18 := fun _ _ _ _ _ _ us hl => match us, hl with | [_, _, _], _ => rfl
theorem b19 : Bd d19 := fun _ _ _ _ _ _ us hl => match us, hl with | [_], _ => rfl
theorem bd : ∀ (f : Nat) (dc : DefC), md.defs[f]? = some dc → Bd dc := by
  intro f dc h
  match f, h with
  | 0, h => cases h; exact b0
  | 1, h => cases h; exact b1
  | 2, h => cases h; exact b2
  | 3, h => cases h; exact b3
  | 4, h => cases h; exact b4
  | 5, h => cases h; exact b5
  | 6, h => cases h; exact b6
  | 7, h => cases h; exact b7
  | 8, h => cases h; exact b8
  | 9, h => cases h; exact b9
  | 10, h => cases h; exact b10
  | 11, h => cases h; exact b11
  | 12, h => cases h; exact b12
  | 13, h => cases h; exact b13
  | 14, h => cases h; exact b14
  | 15, h => cases h; exact b15
  | 16, h => cases h; exact b16
  | 17, h => cases h; exact b17
  | 18, h => cases h; exact b18
  | 19, h => cases h; exact b19
  | n + 20, h => cases h
def nm0 : List Str := [("__name__" : Str), ("LookError" : Str), ("InvalidWay" : Str), ("InvalidSize" : Str), ("InvalidPlace" : Str), ("InvalidWeights" : Str), ("MOST_ROWS" : Str), ("MIDDLES" : Str), ("EQUALS" : Str), ("GAPS" : Str), ("ANSWERS" : Str), ("is_between" : Str), ("is_way" : Str), ("need_way" : Str), ("middle_of" : Str), ("FAR" : Str), ("need_size" : Str), ("need_place" : Str), ("path_and_ends" : Str), ("depth" : Str), ("levels_of" : Str), ("MOST_WEIGHT" : Str), ("need_weights" : Str), ("reads_of" : Str), ("best_sums" : Str), ("least_reads" : Str), ("sum_reads" : Str), ("_law_source" : Str), ("_law_draw" : Str), ("_law_choice" : Str), ("_law_way" : Str), ("_law_depths" : Str)]
def loose : List Str := nm0
abbrev R : PySem.W.OpenRow := PySem.W.OpenLaw.row RWL
abbrev hk : PySem.W.Hook := hookE 4 md
def ob (s : PySem.W.SharedT) : He.AlD := obsEG 4 md (HandSHeadRun.getT s)
theorem ob_eq (s : PySem.W.SharedT) : ob s = hk.obs s.abs := obsEG_eq (HandSHeadRun.getT_eq s)
theorem run (w : World) : HandSHeadRun.RunEq R (PySem.W.view R.prog [37]) hk ob 4000 loose w := by
  intro os
  kernel_rfl
end Lw
namespace Lw
open PySem Ev
-- needs:
/-! ### draws -/
def Src (st : Sto) (l : Nat) : Prop := ∃ a b : Int, 0 ≤ a ∧ 0 ≤ b ∧ st[l]? = some (.lst [.int a, .int b])
theorem Src.set {st : Sto} {l : Nat} {a b : Int} (h : l < st.length) (ha : 0 ≤ a) (hb : 0 ≤ b) : Src (st.set l (.lst [.int a, .int b])) l := ⟨a, b, ha, hb, by rw [List.getElem?_set_self h]⟩
theorem Src.lt {st : Sto} {l : Nat} (h : Src st l) : l < st.length := by
  obtain ⟨a, b, _, _, e⟩ := h
  exact (List.getElem?_eq_some_iff.mp e).1
theorem mod_rng (a : Int) {b : Int} (h : 0 < b) : 0 ≤ a % b ∧ a % b < b := ⟨Int.emod_nonneg a (by omega), Int.emod_lt_of_pos a h⟩
theorem small_of {i : Int} (h : 0 ≤ i) (h2 : i < 2 ^ 63) : small64 i = true := by
  unfold small64
  rw [Bool.and_eq_true, decide_eq_true_eq, decide_eq_true_eq]
  omega
theorem obAt_ref {l : Nat} {r : Rho} {st : Sto} : obAt (.v (.ref l) :: r) st 0 = st[l]? := rfl
theorem obPut_ref {l : Nat} {r : Rho} {st : Sto} {o : Ob} : obPut (.v (.ref l) :: r) st 0 o = .ok (.nx, .v (.ref l) :: r) (st.set l o) := rfl
theorem ix_two0 (a b : D) : atD (.lst [a, b]) (.int 0) = some a := rfl
theorem ix_two1 (a b : D) : atD (.lst [a, b]) (.int 1) = some b := rfl
theorem set_two0 (a b v : D) : setOb (.lst [a, b]) (.int 0) v = some (.lst [v, b]) := rfl
theorem set_two1 (a b v : D) : setOb (.lst [a, b]) (.int 1) v = some (.lst [a, v]) := rfl
theorem law_draw_ok (n : Nat) {l : Nat} {size : Int} {st : Sto} (hs : Src st l) (h0 : 0 < size) (h1 : size < 2 ^ 63) :
    Ok (FF md.Δ md.Γ (n + 1) i__law_draw [.ref l, .int size] st) fun r st' => (∃ d : Int, 0 ≤ d ∧ d < size ∧ r = (.int d, false)) ∧ Src st' l ∧ st'.length = st.length := by
  have hlt := hs.lt
  obtain ⟨a, b, ha, hb, e⟩ := hs
  have hbig : big size = true := big_of (by omega)
  have e1 : (st.set l (.lst [.int a, .int (b * 48271 % 2147483647)]))[l]? = some (.lst [.int a, .int (b * 48271 % 2147483647)]) := by rw [List.getElem?_set_self hlt]
  have hm := mod_rng (b * 48271) (b := 2147483647) (by decide)
  have sm : small64 (b * 48271 % 2147483647) = true := small_of hm.1 (by omega)
  have s48 : small64 48271 = true := by decide
  have b64 : big 64 = true := big_of (by decide)
  rw [FF_at at__law_draw]
  by_cases hp : 0 < a
  · simp -implicitDefEqProofs [evD, d15, B15, Ev.start, x_else, frX, e, ix_two0, set_two0, obAt_ref, obPut_ref, cmpD, asB, biD, binD, Ob.toD, hp, h0, hbig]
    refine ⟨mod_rng a h0, Src.set hlt ?_ hb⟩
    exact Int.ediv_nonneg ha (by omega)
  · simp -implicitDefEqProofs [evD, d15, B15, Ev.start, x_else, frX, e, e1, ix_two0, ix_two1, set_two1, obAt_ref, obPut_ref, cmpD, asB, biD, binD, Ob.toD, hp, h0, sm, s48, b64]
    exact ⟨mod_rng _ h0, Src.set hlt ha hm.1⟩
theorem law_choice_ok (n : Nat) {l : Nat} {ds : List D} {st : Sto} (hs : Src st l) (h0 : ds ≠ []) (h1 : ds.length < 2 ^ 60) :
    Ok (FF md.Δ md.Γ (n + 2) i__law_choice [.ref l, .lst ds] st) fun r st' => (∃ d ∈ ds, r = (d, false)) ∧ Src st' l ∧ st'.length = st.length := by
  have hlen : 0 < ds.length := List.length_pos_iff.mpr h0
  rw [FF_at at__law_choice]
  simp -implicitDefEqProofs [evD, d16, B16, Ev.start, x_else, frX, biD, lenD]
  refine (law_draw_ok n hs (size := ds.length) (by omega) (by omega)).mono fun r st' h => ?_
  obtain ⟨⟨d, h2, h3, rfl⟩, h4, h5⟩ := h
  have e : atD (.lst ds) (.int d) = some (ds[d.toNat]'(by omega)) := by
    show (elems (.lst ds)).bind (fun xs => (ixD xs.length d).bind fun j => xs[j]?) = _
    show (ixD ds.length d).bind (fun j => ds[j]?) = _
    unfold ixD
    rw [if_pos h2, if_pos h3]
    show ds[d.toNat]? = _
    exact List.getElem?_eq_getElem _
  simp -implicitDefEqProofs [e, h4, h5]
theorem law_source_ok (n : Nat) (ns : List Int) {k : Int} (hk : 0 ≤ k) (st : Sto) :
    Ok (FF md.Δ md.Γ (n + 1) i__law_source [.scr ns, .int k] st) fun r st' => st' = st ∧ ∃ a b : Int, 0 ≤ a ∧ 0 ≤ b ∧ r = (.lst [.int a, .int b], true) := by
  have s1 : small64 7919 = true := by decide
  have s2 : small64 104729 = true := by decide
  have p1 : ∀ x : Int, 0 ≤ 1 + x % 2147483646 := fun x => by have := mod_rng x (b := 2147483646) (by decide); omega
  have fin : ∀ c : Int, 0 ≤ c → Ok (evS (FF md.Δ md.Γ n) md.Γ (.seq (.ite (.cmp .lt (.var 2) (.bin .pow (.cint 10) (.cint 18))) (.seq (.ret (.list (.cons (.cint 0) (.cons (.bin .add (.cint 1) (.bin .mod (.bi .int (.cons (.bin .add (.bin .mul (.var 2) (.cint 7919)) (.bin .mul (.cint 104729) (.var 1))) .nil)) (.cint 2147483646))) .nil)))) .skip) .skip) (.seq (.ret (.list (.cons (.var 2) (.cons (.bin .add (.cint 1) (.bin .mod (.bi .int (.cons (.bin .add (.var 2) (.var 1)) .nil)) (.cint 2147483646))) .nil)))) .skip)) [.v (.scr ns), .v (.int k), .v (.int c)] st)
      fun r st' => st' = st ∧ ∃ a b : Int, 0 ≤ a ∧ 0 ≤ b ∧ r.1 = .rt (.lst [.int a, .int b]) true := fun c hc => by
    by_cases hp : c < 10 ^ 18
    · have hp' : c < 1000000000000000000 := by simpa using hp
      simp -implicitDefEqProofs [x_else, frX, cmpD, binD, biD, asB, s1, s2, hp', LIM]
      exact p1 _
    · have hp' : ¬ c < 1000000000000000000 := by simpa using hp
      simp -implicitDefEqProofs [x_else, frX, cmpD, binD, biD, asB, hp', LIM]
      exact ⟨hc, p1 _⟩
  refine FF_Ok at__law_source rfl ?_
  have last : ∀ {r : Res (Fl × Rho)}, Ok r (fun r st' => st' = st ∧ ∃ a b : Int, 0 ≤ a ∧ 0 ≤ b ∧ r.1 = .rt (.lst [.int a, .int b]) true) → Ok r (Fin fun r st' => st' = st ∧ ∃ a b : Int, 0 ≤ a ∧ 0 ≤ b ∧ r = (.lst [.int a, .int b], true)) := fun h => by
    refine h.mono fun r st' ⟨h1, a, b, h2, h3, h4⟩ => ?_
    obtain ⟨f, ρ⟩ := r
    have h4 : f = _ := h4
    subst h4
    exact ⟨h1, a, b, h2, h3, rfl⟩
  refine last ?_
  show Ok (evS (FF md.Δ md.Γ n) md.Γ (.seq (.asg 2 (.cint 0)) (.seq (.ite (.cmp .lt (.var 1) (.bi .len (.cons (.var 0) .nil))) (.seq (.asg 2 (.bi .abs (.cons (.ix (.var 0) (.var 1)) .nil))) .skip) .skip) _)) [.v (.scr ns), .v (.int k), .un] st) _
  by_cases hl : k < ns.length
  · have e : atD (.scr ns) (.int k) = some (.int (ns[k.toNat]'(by omega))) := by
      show (ixD ns.length k).bind (fun j => (ns[j]?).map D.int) = _
      unfold ixD
      rw [if_pos hk, if_pos hl]
      show (ns[k.toNat]?).map D.int = _
      rw [List.getElem?_eq_getElem (by omega)]
      rfl
    rw [s_seq, s_asg, e_cint, bind_ok', bind_ok', put_succ, put_succ, put_zero]
    rw [s_seq, s_ite]
    simp -implicitDefEqProofs only [e_cmp, e_var, e_bi, a_cons, a_nil, get_succ, get_zero, bind_ok', biD, lenD, Option.map_some, lift_some, cmpD, asB, decide_eq_true hl, if_true, s_seq, s_asg, e_ix, e, s_skip, put_succ, put_zero]
    exact fin _ (by split <;> omega)
  · rw [s_seq, s_asg, e_cint, bind_ok', bind_ok', put_succ, put_succ, put_zero]
    rw [s_seq, s_ite]
    simp -implicitDefEqProofs only [e_cmp, e_var, e_bi, a_cons, a_nil, get_succ, get_zero, bind_ok', biD, lenD, Option.map_some, lift_some, cmpD, asB, decide_eq_false hl, Bool.false_eq_true, if_false, s_skip]
    exact fin 0 (Int.le_refl 0)

-- needs: source
/-! ### a law's frame -/
theorem len_put {ρ : Rho} {i : Nat} {s : Sl} (h : i < ρ.length) : (put ρ i s).length = ρ.length := by
  induction ρ generalizing i with
  | nil => simp at h
  | cons x ρ ih => cases i with
    | zero => rfl
    | succ i =>
      show (put ρ i s).length + 1 = ρ.length + 1
      rw [ih (by simpa using h)]
theorem len_putm (ρ : Rho) (i : Nat) (s : Sl) : (put ρ i s).length = max ρ.length (i + 1) := by
  induction ρ generalizing i with
  | nil =>
    induction i with
    | zero => rfl
    | succ i ih =>
      show (put [] i s).length + 1 = _
      rw [ih]
      simp
  | cons x ρ ih => cases i with
    | zero => show ρ.length + 1 = max (ρ.length + 1) 1; omega
    | succ i =>
      show (put ρ i s).length + 1 = max (ρ.length + 1) (i + 1 + 1)
      rw [ih]
      omega
def okT (r : RS) : Bool := match r with
  | .ok (.rt (.bl b) _, _) _ => b
  | _ => false
theorem okT_of {F : Nat → List D → Sto → Res (D × Bool)} {Γ : Nat → D} {s : Stm} {ρ : Rho} {st : Sto} (h : okT (evS F Γ s ρ st) = true) : Ok (evS F Γ s ρ st) (Ev.Fin fun r _ => r.1 = .bl true) := by
  revert h
  cases evS F Γ s ρ st with
  | bad => intro h; cases h
  | ok r st' =>
    obtain ⟨f, ρ'⟩ := r
    cases f with
    | rt d b => cases d with
      | bl b' => intro h; have h : b' = true := h; subst h; exact ⟨rfl⟩
      | _ => intro h; cases h
    | _ => intro h; cases h
def Inv (N : Nat) (ns : List Int) (ρ : Rho) (st : Sto) : Prop := ρ.length = N ∧ get ρ 0 = .v (.scr ns) ∧ ∃ l, get ρ 2 = .v (.ref l) ∧ Src st l
theorem frame (N : Nat) {c : Int} {BODY TAIL : Stm} (n : Nat) (ns : List Int) (hn : ns.length ≤ 63) (hc0 : 0 ≤ c) (hc : c < 64) (hN : 2 < N) (ρ0 : Rho) (st0 : Sto) (hl0 : ρ0.length = N) (hg0 : get ρ0 0 = .v (.scr ns))
    (hb : ∀ ρ st, Inv N ns ρ st → Ok (evS (FF md.Δ md.Γ (n + 1)) md.Γ BODY ρ st) (Lop (Inv N ns) (fun _ _ => False) (Ev.Fin fun r _ => r.1 = .bl true)))
    (ht : ∀ ρ st, ρ.length = N → Ok (evS (FF md.Δ md.Γ (n + 1)) md.Γ TAIL ρ st) (Ev.Fin fun r _ => r.1 = .bl true)) :
    Ok (evS (FF md.Δ md.Γ (n + 1)) md.Γ (.seq (.forin (.one 1) (.rng (.cons (.bin .add (.cint 1) (.bi .min2 (.cons (.bi .len (.cons (.var 0) .nil)) (.cons (.cint c) .nil)))) .nil)) (.seq (.asgo 2 (.call i__law_source (.cons (.var 0) (.cons (.var 1) .nil)))) (.seq (.shr 2) BODY))) TAIL) ρ0 st0) (Ev.Fin fun r _ => r.1 = .bl true) := by
  ((repeat (first | with_reducible refine w_assoc ?_ | with_reducible refine w_skip ?_ | with_reducible refine w_pass ?_)); with_reducible refine w_for ?_; refine Ok_hide ?_; intro Q hQ; simp -implicitDefEqProofs [Ev.ite_hid Q, x_else, getputw, LIM, -List.map_map, -Bool.if_false_right, -Bool.if_false_left, -Bool.if_true_left, -Bool.if_true_right, hg0])
  rw [rngD_one (by split <;> omega) (by split <;> omega), lift_some, Ok_ok]
  (refine unhide hQ ?_; clear hQ; clear Q)
  refine Forx.rng (fun j ρ st => ρ.length = N ∧ get ρ 0 = .v (.scr ns)) ⟨hl0, hg0⟩ (fun j ρ st hj ⟨hl, g0⟩ => ?_) fun ρ st ⟨hl, g0⟩ => ht ρ st hl
  ((repeat (first | with_reducible refine w_assoc ?_ | with_reducible refine w_skip ?_ | with_reducible refine w_pass ?_)); with_reducible refine w_asgo ?_; refine Ok_hide ?_; intro Q hQ; simp -implicitDefEqProofs [Ev.ite_hid Q, x_else, getputw, LIM, -List.map_map, -Bool.if_false_right, -Bool.if_false_left, -Bool.if_true_left, -Bool.if_true_right, g0])
  refine (law_source_ok _ ns (k := (j : Int)) (by omega) st).mono ?_
  rintro _ st1 ⟨rfl, a, b, ha, hb0, rfl⟩
  try simp
  (refine unhide hQ ?_; clear hQ; clear Q)
  refine w_shr (o := .lst [.int a, .int b]) (by simp -implicitDefEqProofs [getputw]) ?_
  have hs0 : Src (st1 ++ [.lst [.int a, .int b]]) st1.length := ⟨a, b, ha, hb0, by simp⟩
  have i1 : 1 < ρ.length := by omega
  have e1 : (put ρ 1 (.v (.int (0 + (j : Int))))).length = ρ.length := len_put i1
  refine (hb _ _ ⟨?_, by simp -implicitDefEqProofs [getputw, g0], st1.length, by simp -implicitDefEqProofs [getputw], hs0⟩).mono fun r st h => ?_
  · rw [len_put (by rw [len_put (by omega)]; omega), len_put (by omega), e1, hl]
  · obtain ⟨f, ρ'⟩ := r
    cases f with
    | nx => exact ⟨h.1, h.2.1⟩
    | ct => exact ⟨h.1, h.2.1⟩
    | bk => exact h.elim
    | rt d b => exact h

-- needs: source
def tabD (t : List Int) : D := .tup (t.map .int)
@[simp] theorem lenD_tab (t : List Int) : lenD (tabD t) = some (t.length : Int) := by show some (((t.map D.int).length : Nat) : Int) = _; rw [List.length_map]
@[simp] theorem bi_len_tab (t : List Int) : biD .len [tabD t] = some (.int (t.length : Int)) := by show (lenD (tabD t)).map _ = _; rw [lenD_tab]; rfl
@[simp] theorem isD_tab (t : List Int) : isD .tuple (tabD t) = some true := rfl
@[simp] theorem elems_tab (t : List Int) : Ev.elems (tabD t) = some (t.map .int) := rfl
@[simp] theorem elemsK_tab (t : List Int) : elemsK (tabD t) = some (t.map .int) := rfl
theorem tt0 : D.tup [] = tabD [] := rfl
theorem tt1 (a : Int) : D.tup [.int a] = tabD [a] := rfl
theorem tt2 (a b : Int) : D.tup [.int a, .int b] = tabD [a, b] := rfl
theorem tt3 (a b c : Int) : D.tup [.int a, .int b, .int c] = tabD [a, b, c] := rfl
theorem tt4 (a b c d : Int) : D.tup [.int a, .int b, .int c, .int d] = tabD [a, b, c, d] := rfl
theorem tt5 (a b c d e : Int) : D.tup [.int a, .int b, .int c, .int d, .int e] = tabD [a, b, c, d, e] := rfl
theorem eqD_tab (a b : List Int) : eqD (tabD a) (tabD b) = some (decide (a = b)) := eqD_intst a b
theorem tab_of (xs : List Int) : D.tup (xs.map D.int) = tabD xs := rfl
theorem in_tab (a : Int) (w : List Int) : inD (.int a) (tabD w) = some (decide (a ∈ w)) := inT_int a w
theorem add_tab {xs ys : List Int} (h : xs.length + ys.length ≤ 1000) : binD .add (tabD xs) (tabD ys) = some (tabD (xs ++ ys)) := by
  show (if (xs.map D.int).length + (ys.map D.int).length ≤ LIM then some (D.tup (xs.map D.int ++ ys.map D.int)) else none) = _
  rw [if_pos (by rw [List.length_map, List.length_map]; show _ ≤ 16777216; omega), ← List.map_append]
  rfl
theorem add_intsl {xs ys : List Int} (h : xs.length + ys.length ≤ 1000) : binD .add (.lst (xs.map .int)) (.lst (ys.map .int)) = some (.lst ((xs ++ ys).map .int)) := by
  show (if (xs.map D.int).length + (ys.map D.int).length ≤ LIM then some (D.lst (xs.map D.int ++ ys.map D.int)) else none) = _
  rw [if_pos (by rw [List.length_map, List.length_map]; show _ ≤ 16777216; omega), ← List.map_append]
theorem sl_to {w : List Int} {j : Int} (h0 : 0 ≤ j) (h1 : j ≤ w.length) : slD (tabD w) none (some j) = some (tabD (w.take j.toNat)) := by
  have b : clipD (w.map D.int).length (w.map D.int).length (some j) = j.toNat := by
    unfold clipD
    rw [List.length_map]
    simp only
    rw [if_neg (by omega)]
    omega
  show some (D.tup (((w.map D.int).drop 0).take (clipD (w.map D.int).length (w.map D.int).length (some j) - 0))) = _
  rw [b, List.drop_zero, ← List.map_take]
  rfl
theorem sl_from {w : List Int} {j : Int} (h0 : 0 ≤ j) (h1 : j ≤ w.length) : slD (tabD w) (some j) none = some (tabD (w.drop j.toNat)) := by
  have a : clipD (w.map D.int).length 0 (some j) = j.toNat := by
    unfold clipD
    rw [List.length_map]
    simp only
    rw [if_neg (by omega)]
    omega
  show some (D.tup (((w.map D.int).drop (clipD (w.map D.int).length 0 (some j))).take ((w.map D.int).length - clipD (w.map D.int).length 0 (some j)))) = _
  rw [a, List.take_of_length_le (by rw [List.length_drop]; exact Nat.le_refl _), ← List.map_drop]
  rfl
theorem is_between_int (n : Nat) (v a b : Int) (st : Sto) : FF md.Δ md.Γ (n + 1) i_is_between [.int v, .int a, .int b] st = .ok (.bl (decide (a ≤ v) && decide (v ≤ b)), false) st := by
  rw [FF_at at_is_between]
  by_cases h1 : a ≤ v <;> by_cases h2 : v ≤ b <;> simp -implicitDefEqProofs [evD, d0, B0, Ev.start, x_else, isD, asB, cmpD, h1, h2, frX]

-- needs: frame tabs
theorem draws_ok (n : Nat) {i s : Nat} {E : Ex} {most : Int} {K : Nat} {ρ : Rho} {l : Nat} {st : Sto} (hi : i ≠ s) (hK : K ≤ 1000) (g2 : get ρ s = .v (.ref l)) (hE : ∀ v st, evE (FF md.Δ md.Γ (n + 1)) md.Γ E (put ρ i (.v v)) st = .ok (.int most) st) (hs : Src st l) (h0 : 0 < most) (h1 : most < 2 ^ 63) :
    Ok (lcS (FF md.Δ md.Γ (n + 1)) md.Γ (.call i__law_draw (.cons (.var s) (.cons E .nil))) (.one i) .nil ρ (rngL 0 1 K) st) fun d st' =>
      ∃ w : List Int, d = .lst (w.map .int) ∧ w.length = K ∧ (∀ x ∈ w, 0 ≤ x ∧ x < most) ∧ Src st' l := by
  have hl : (rngL 0 1 K).length = K := by unfold rngL; rw [List.length_map, List.length_range]
  refine (lcS_Ok (fun j acc st' => ∃ w : List Int, acc = w.map .int ∧ w.length = j ∧ (∀ x ∈ w, 0 ≤ x ∧ x < most) ∧ Src st' l) _ st (by rw [hl]; show _ ≤ 16777216; omega) ⟨[], rfl, rfl, by simp, hs⟩ fun j x acc st' hj ⟨w, e, h2, h3, h5⟩ => ⟨_, rfl, ?_⟩).mono fun d st' h => ?_
  · simp -implicitDefEqProofs [getputw, Ne.symm hi, g2, hE]
    refine (law_draw_ok _ h5 h0 h1).mono ?_
    rintro _ st2 ⟨⟨d, d0, d1, rfl⟩, hs2, -⟩
    simp
    refine ⟨w ++ [d], by simp -implicitDefEqProofs [e], by simp -implicitDefEqProofs [h2], fun x hx => ?_, hs2⟩
    rcases List.mem_append.mp hx with hx | hx
    · exact h3 x hx
    · have : x = d := by simpa using hx
      omega
  · obtain ⟨ys, rfl, w, rfl, h2, h3, h5⟩ := h
    rw [hl] at h2
    exact ⟨w, rfl, h2, h3, h5⟩

-- needs: tabs
def mn (l : List Int) : Int := (minL l).getD 0
theorem minL_some : ∀ {l : List Int}, l ≠ [] → minL l = some (mn l)
  | [], h => absurd rfl h
  | [i], _ => rfl
  | i :: j :: r, _ => by
    have := minL_some (l := j :: r) (by simp)
    unfold mn
    show ((minL (j :: r)).map fun m => if m < i then m else i) = some (((minL (j :: r)).map fun m => if m < i then m else i).getD 0)
    rw [this]
    rfl
theorem mn_mem {l : List Int} (h : l ≠ []) : mn l ∈ l := (minL_ok (minL_some h)).1
theorem mn_le {l : List Int} {x : Int} (h : x ∈ l) : mn l ≤ x := (minL_ok (minL_some (fun z => by rw [z] at h; cases h))).2 x h
theorem mn_eq {l : List Int} {m : Int} (h1 : m ∈ l) (h2 : ∀ x ∈ l, m ≤ x) : mn l = m := by
  have a := mn_le h1
  have b := h2 _ (mn_mem (fun z => by rw [z] at h1; cases h1))
  omega
/-! ### the smallest sum of reads -/
def bestF : Nat → List Int → Int
  | 0, _ => 0
  | n + 1, w => if w.length = 0 then 0 else w.sum + mn ((List.range w.length).map fun i => bestF n (w.take i) + bestF n (w.drop (i + 1)))
theorem bestF_fuel : ∀ (n m : Nat) (w : List Int), w.length ≤ n → w.length ≤ m → bestF n w = bestF m w
  | 0, 0, _, _, _ => rfl
  | 0, m + 1, w, h, _ => by
    have : w.length = 0 := by omega
    unfold bestF
    rw [if_pos this]
  | n + 1, 0, w, _, h => by
    have : w.length = 0 := by omega
    unfold bestF
    rw [if_pos this]
  | n + 1, m + 1, w, h1, h2 => by
    unfold bestF
    by_cases hw : w.length = 0
    · rw [if_pos hw, if_pos hw]
    · rw [if_neg hw, if_neg hw]
      congr 2
      refine List.map_congr_left fun i hi => ?_
      have hi := List.mem_range.mp hi
      rw [bestF_fuel n m (w.take i) (by rw [List.length_take]; omega) (by rw [List.length_take]; omega), bestF_fuel n m (w.drop (i + 1)) (by rw [List.length_drop]; omega) (by rw [List.length_drop]; omega)]
def best (w : List Int) : Int := bestF w.length w
def partsF (w : List Int) : List Int := (List.range w.length).map fun i => best (w.take i) + best (w.drop (i + 1))
theorem best_nil : best [] = 0 := rfl
theorem best_eq {w : List Int} (h : w ≠ []) : best w = w.sum + mn (partsF w) := by
  have hl : w.length ≠ 0 := fun z => h (List.length_eq_zero_iff.mp z)
  obtain ⟨n, hn⟩ : ∃ n, w.length = n + 1 := ⟨w.length - 1, by omega⟩
  have e : best w = bestF (n + 1) w := by unfold best; rw [hn]
  rw [e]
  unfold bestF
  rw [if_neg hl]
  congr 2
  unfold partsF
  refine List.map_congr_left fun i hi => ?_
  have hi := List.mem_range.mp hi
  unfold best
  rw [bestF_fuel n _ (w.take i) (by rw [List.length_take]; omega) (Nat.le_refl _), bestF_fuel n _ (w.drop (i + 1)) (by rw [List.length_drop]; omega) (Nat.le_refl _)]
theorem parts_ne {w : List Int} (h : w ≠ []) : partsF w ≠ [] := fun z => h (by
  have := congrArg List.length z
  unfold partsF at this
  rw [List.length_map, List.length_range] at this
  exact List.length_eq_zero_iff.mp this)
def firstsF (w : List Int) : List Int := ((List.range w.length).filter fun i => decide (best (w.take i) + best (w.drop (i + 1)) = mn (partsF w))).map fun (i : Nat) => (i : Int)
/-! ### the walk -/
structure WgtOk (w : List Int) : Prop where
  p : w ≠ []
  l : w.length ≤ 12
  b : ∀ x ∈ w, 0 ≤ x ∧ x ≤ 1000000
theorem Γ_rows12 : md.Γ g_MOST_ROWS = .int 12 := rfl
theorem Γ_weight : md.Γ g_MOST_WEIGHT = .int 1000000 := rfl
theorem need_weights_ok (n : Nat) {w : List Int} (h : WgtOk w) (st : Sto) : FF md.Δ md.Γ (n + 2) i_need_weights [tabD w] st = .ok (.non, false) st := by
  refine eq_of_Ok ?_
  have hl := h.l
  have h1 : 1 ≤ (w.length : Int) := by
    have := List.length_pos_iff.mpr h.p
    omega
  have h2 : (w.length : Int) ≤ 12 := by omega
  have hlc : ∀ ρ, lcS (FF md.Δ md.Γ (n + 1)) md.Γ (.call i_is_between (.cons (.var 1) (.cons (.cint 0) (.cons (.glob g_MOST_WEIGHT) .nil)))) (.one 1) .nil ρ (w.map .int) st = .ok (.lst ((w.map fun _ => true).map .bl)) st := fun ρ => by
    rw [lcS_map0 (fun _ => .bl true) w D.int (by show _ ≤ 16777216; omega) (fun x hx => ⟨_, rfl, ?_⟩), List.map_map]
    · rfl
    · have := h.b x hx
      simp -implicitDefEqProofs [Γ_weight, is_between_int, this, getputw]
  have hall : (w.map fun _ => true).all id = true := by simp
  refine go_need_weights ?_
  (repeat (first | with_reducible refine w_assoc ?_ | with_reducible refine w_skip ?_ | with_reducible refine w_pass ?_ | with_reducible refine w_end ?_ | with_reducible refine w_brk ?_ | with_reducible refine w_cnt ?_ | (with_reducible refine w_asg ?_; refine Ok_hide ?_; intro Q hQ; simp -implicitDefEqProofs [Ev.ite_hid Q, x_else, getputw, LIM, -List.map_map, -Bool.if_false_right, -Bool.if_false_left, -Bool.if_true_left, -Bool.if_true_right, Γ_rows12, h1, h2, hlc, bi_all, hall]; refine unhide hQ ?_; clear hQ; clear Q) | (with_reducible refine w_ret ?_; refine Ok_hide ?_; intro Q hQ; simp -implicitDefEqProofs [Ev.ite_hid Q, x_else, getputw, LIM, -List.map_map, -Bool.if_false_right, -Bool.if_false_left, -Bool.if_true_left, -Bool.if_true_right, Γ_rows12, h1, h2, hlc, bi_all, hall]; refine unhide hQ ?_; clear hQ; clear Q) | (with_reducible refine w_app ?_; refine Ok_hide ?_; intro Q hQ; simp -implicitDefEqProofs [Ev.ite_hid Q, x_else, getputw, LIM, -List.map_map, -Bool.if_false_right, -Bool.if_false_left, -Bool.if_true_left, -Bool.if_true_right, Γ_rows12, h1, h2, hlc, bi_all, hall]; refine unhide hQ ?_; clear hQ; clear Q) | (with_reducible refine w_pasg ?_; refine Ok_hide ?_; intro Q hQ; simp -implicitDefEqProofs [Ev.ite_hid Q, x_else, getputw, LIM, -List.map_map, -Bool.if_false_right, -Bool.if_false_left, -Bool.if_true_left, -Bool.if_true_right, Γ_rows12, h1, h2, hlc, bi_all, hall]; refine unhide hQ ?_; clear hQ; clear Q) | (with_reducible refine w_tasg ?_; refine Ok_hide ?_; intro Q hQ; simp -implicitDefEqProofs [Ev.ite_hid Q, x_else, getputw, LIM, -List.map_map, -Bool.if_false_right, -Bool.if_false_left, -Bool.if_true_left, -Bool.if_true_right, Γ_rows12, h1, h2, hlc, bi_all, hall]; refine unhide hQ ?_; clear hQ; clear Q) | (with_reducible refine w_asgo ?_; refine Ok_hide ?_; intro Q hQ; simp -implicitDefEqProofs [Ev.ite_hid Q, x_else, getputw, LIM, -List.map_map, -Bool.if_false_right, -Bool.if_false_left, -Bool.if_true_left, -Bool.if_true_right, Γ_rows12, h1, h2, hlc, bi_all, hall]; refine unhide hQ ?_; clear hQ; clear Q) | (with_reducible refine w_fz ?_; refine Ok_hide ?_; intro Q hQ; simp -implicitDefEqProofs [Ev.ite_hid Q, x_else, getputw, LIM, -List.map_map, -Bool.if_false_right, -Bool.if_false_left, -Bool.if_true_left, -Bool.if_true_right, Γ_rows12, h1, h2, hlc, bi_all, hall]; refine unhide hQ ?_; clear hQ; clear Q) | (with_reducible refine w_setix ?_; refine Ok_hide ?_; intro Q hQ; simp -implicitDefEqProofs [Ev.ite_hid Q, x_else, getputw, LIM, -List.map_map, -Bool.if_false_right, -Bool.if_false_left, -Bool.if_true_left, -Bool.if_true_right, Γ_rows12, h1, h2, hlc, bi_all, hall]; refine unhide hQ ?_; clear hQ; clear Q) | (with_reducible refine w_exp ?_; refine Ok_hide ?_; intro Q hQ; simp -implicitDefEqProofs [Ev.ite_hid Q, x_else, getputw, LIM, -List.map_map, -Bool.if_false_right, -Bool.if_false_left, -Bool.if_true_left, -Bool.if_true_right, Γ_rows12, h1, h2, hlc, bi_all, hall]; refine unhide hQ ?_; clear hQ; clear Q) | (with_reducible refine w_for ?_; refine Ok_hide ?_; intro Q hQ; simp -implicitDefEqProofs [Ev.ite_hid Q, x_else, getputw, LIM, -List.map_map, -Bool.if_false_right, -Bool.if_false_left, -Bool.if_true_left, -Bool.if_true_right, Γ_rows12, h1, h2, hlc, bi_all, hall]; refine unhide hQ ?_; clear hQ; clear Q) | (with_reducible refine w_ite ?_; refine Ok_hide ?_; intro Q hQ; simp -implicitDefEqProofs [Ev.ite_hid Q, x_else, getputw, LIM, -List.map_map, -Bool.if_false_right, -Bool.if_false_left, -Bool.if_true_left, -Bool.if_true_right, Γ_rows12, h1, h2, hlc, bi_all, hall]; refine unhide hQ ?_; clear hQ; clear Q; first | refine c2_t ?_ | refine c2_f ?_) | (with_reducible refine w_shr (by simp [getputw]; rfl) ?_)))
  simp
def keyP (p : Int × Int) : D := .tup [.int p.1, .int p.2]
theorem en_keyP : En keyP 1 := (en_int.tup).comp (fun p : Int × Int => [p.1, p.2]) fun a b h => by
  obtain ⟨a1, a2⟩ := a
  obtain ⟨b1, b2⟩ := b
  simp at h
  obtain ⟨rfl, rfl⟩ := h
  rfl
theorem keyP_ok (p : Int × Int) : keyD true (keyP p) = true := rfl
def seg (w : List Int) (lo hi : Int) : List Int := (w.drop lo.toNat).take (hi - lo).toNat
theorem seg_len {w : List Int} {lo hi : Int} (h0 : 0 ≤ lo) (h1 : lo ≤ hi) (h2 : hi ≤ w.length) : (seg w lo hi).length = (hi - lo).toNat := by
  unfold seg
  rw [List.length_take, List.length_drop]
  omega
theorem seg_all (w : List Int) : seg w 0 w.length = w := by
  unfold seg
  have e1 : ((w.length : Int) - 0).toNat = w.length := by omega
  rw [e1]
  simp
theorem seg_take {w : List Int} {lo hi : Int} {i : Nat} (h0 : 0 ≤ lo) (h : lo + i ≤ hi) : seg w lo (lo + i) = (seg w lo hi).take i := by
  unfold seg
  rw [List.take_take]
  congr 1
  omega
theorem seg_drop {w : List Int} {lo hi : Int} {i : Nat} (h0 : 0 ≤ lo) (h : lo + i + 1 ≤ hi) : seg w (lo + i + 1) hi = (seg w lo hi).drop (i + 1) := by
  unfold seg
  rw [List.drop_take, List.drop_drop]
  have e1 : (lo + i + 1).toNat = lo.toNat + (i + 1) := by omega
  have e2 : (hi - (lo + i + 1)).toNat = (hi - lo).toNat - (i + 1) := by omega
  rw [e1, e2]
theorem slD_tab {w : List Int} {lo hi : Int} (h0 : 0 ≤ lo) (h1 : lo ≤ hi) (h2 : hi ≤ w.length) : slD (tabD w) (some lo) (some hi) = some (tabD (seg w lo hi)) := by
  show some (D.tup (cutD (w.map D.int) (some lo) (some hi))) = _
  rw [cut_ints h0 h1 h2]
  rfl
theorem bi_sum_tab (w : List Int) : biD .sum [tabD w] = some (.int w.sum) := bi_sumt w
def Tab (w : List Int) (m : List ((Int × Int) × Int)) (k : Int) : Prop := ∀ lo hi : Int, 0 ≤ lo → lo ≤ hi → hi ≤ w.length → hi - lo ≤ k → alook (lo, hi) m = some (best (seg w lo hi))
theorem best_sums_ok (n : Nat) {w : List Int} (h : WgtOk w) (st : Sto) : Ok (FF md.Δ md.Γ (n + 1) i_best_sums [tabD w] st) fun r st' => st' = st ∧ ∃ m, r = (.dct true (encD keyP .int m), true) ∧ Tab w m w.length := by
  have hl := h.l
  refine go_best_sums ?_
  (repeat (first | with_reducible refine w_assoc ?_ | with_reducible refine w_skip ?_ | with_reducible refine w_pass ?_ | with_reducible refine w_end ?_ | with_reducible refine w_brk ?_ | with_reducible refine w_cnt ?_ | (with_reducible refine w_asg ?_; refine Ok_hide ?_; intro Q hQ; simp -implicitDefEqProofs [Ev.ite_hid Q, x_else, getputw, LIM, -List.map_map, -Bool.if_false_right, -Bool.if_false_left, -Bool.if_true_left, -Bool.if_true_right]; refine unhide hQ ?_; clear hQ; clear Q) | (with_reducible refine w_ret ?_; refine Ok_hide ?_; intro Q hQ; simp -implicitDefEqProofs [Ev.ite_hid Q, x_else, getputw, LIM, -List.map_map, -Bool.if_false_right, -Bool.if_false_left, -Bool.if_true_left, -Bool.if_true_right]; refine unhide hQ ?_; clear hQ; clear Q) | (with_reducible refine w_app ?_; refine Ok_hide ?_; intro Q hQ; simp -implicitDefEqProofs [Ev.ite_hid Q, x_else, getputw, LIM, -List.map_map, -Bool.if_false_right, -Bool.if_false_left, -Bool.if_true_left, -Bool.if_true_right]; refine unhide hQ ?_; clear hQ; clear Q) | (with_reducible refine w_pasg ?_; refine Ok_hide ?_; intro Q hQ; simp -implicitDefEqProofs [Ev.ite_hid Q, x_else, getputw, LIM, -List.map_map, -Bool.if_false_right, -Bool.if_false_left, -Bool.if_true_left, -Bool.if_true_right]; refine unhide hQ ?_; clear hQ; clear Q) | (with_reducible refine w_tasg ?_; refine Ok_hide ?_; intro Q hQ; simp -implicitDefEqProofs [Ev.ite_hid Q, x_else, getputw, LIM, -List.map_map, -Bool.if_false_right, -Bool.if_false_left, -Bool.if_true_left, -Bool.if_true_right]; refine unhide hQ ?_; clear hQ; clear Q) | (with_reducible refine w_asgo ?_; refine Ok_hide ?_; intro Q hQ; simp -implicitDefEqProofs [Ev.ite_hid Q, x_else, getputw, LIM, -List.map_map, -Bool.if_false_right, -Bool.if_false_left, -Bool.if_true_left, -Bool.if_true_right]; refine unhide hQ ?_; clear hQ; clear Q) | (with_reducible refine w_fz ?_; refine Ok_hide ?_; intro Q hQ; simp -implicitDefEqProofs [Ev.ite_hid Q, x_else, getputw, LIM, -List.map_map, -Bool.if_false_right, -Bool.if_false_left, -Bool.if_true_left, -Bool.if_true_right]; refine unhide hQ ?_; clear hQ; clear Q) | (with_reducible refine w_setix ?_; refine Ok_hide ?_; intro Q hQ; simp -implicitDefEqProofs [Ev.ite_hid Q, x_else, getputw, LIM, -List.map_map, -Bool.if_false_right, -Bool.if_false_left, -Bool.if_true_left, -Bool.if_true_right]; refine unhide hQ ?_; clear hQ; clear Q) | (with_reducible refine w_exp ?_; refine Ok_hide ?_; intro Q hQ; simp -implicitDefEqProofs [Ev.ite_hid Q, x_else, getputw, LIM, -List.map_map, -Bool.if_false_right, -Bool.if_false_left, -Bool.if_true_left, -Bool.if_true_right]; refine unhide hQ ?_; clear hQ; clear Q) | (with_reducible refine w_for ?_; refine Ok_hide ?_; intro Q hQ; simp -implicitDefEqProofs [Ev.ite_hid Q, x_else, getputw, LIM, -List.map_map, -Bool.if_false_right, -Bool.if_false_left, -Bool.if_true_left, -Bool.if_true_right]; refine unhide hQ ?_; clear hQ; clear Q) | (with_reducible refine w_ite ?_; refine Ok_hide ?_; intro Q hQ; simp -implicitDefEqProofs [Ev.ite_hid Q, x_else, getputw, LIM, -List.map_map, -Bool.if_false_right, -Bool.if_false_left, -Bool.if_true_left, -Bool.if_true_right]; refine unhide hQ ?_; clear hQ; clear Q; first | refine c2_t ?_ | refine c2_f ?_) | (with_reducible refine w_shr (by simp [getputw]; rfl) ?_)))
  ((repeat (first | with_reducible refine w_assoc ?_ | with_reducible refine w_skip ?_ | with_reducible refine w_pass ?_)); with_reducible refine w_for ?_; refine Ok_hide ?_; intro Q hQ; simp -implicitDefEqProofs [Ev.ite_hid Q, x_else, getputw, LIM, -List.map_map, -Bool.if_false_right, -Bool.if_false_left, -Bool.if_true_left, -Bool.if_true_right])
  rw [rngD_one (by omega) (by omega), lift_some, Ok_ok]
  have e1 : ((w.length : Int) + 1).toNat = w.length + 1 := by omega
  rw [e1]
  (refine unhide hQ ?_; clear hQ; clear Q)
  refine Forx.rng (fun j ρ st' => st' = st ∧ get ρ 0 = .v (tabD w) ∧ get ρ 1 = .v (.int w.length) ∧ ∃ m : List ((Int × Int) × Int), get ρ 2 = .own (.dct true (encD keyP .int m)) ∧ m.length ≤ j ∧ ∀ lo : Int, 0 ≤ lo → lo < j → alook (lo, lo) m = some 0)
    ⟨rfl, by simp -implicitDefEqProofs [getputw], by simp -implicitDefEqProofs [getputw], [], by simp -implicitDefEqProofs [getputw, encD], by simp, fun lo h0 h1 => by omega⟩ (fun j ρ st' hj ⟨e0, g0, g1, m, g2, hm, hz⟩ => ?_) fun ρ st' ⟨e0, g0, g1, m, g2, hm, hz⟩ => ?_
  · subst e0
    have hk : D.tup [.int (j : Int), .int (j : Int)] = keyP (j, j) := rfl
    have hset := setD_enc (kd := true) (vf := D.int) en_keyP (by decide) (x := ((j : Int), (j : Int))) (v := 0) (m := m) (keyP_ok _) (by omega)
    (repeat (first | with_reducible refine w_assoc ?_ | with_reducible refine w_skip ?_ | with_reducible refine w_pass ?_ | with_reducible refine w_end ?_ | with_reducible refine w_brk ?_ | with_reducible refine w_cnt ?_ | (with_reducible refine w_asg ?_; refine Ok_hide ?_; intro Q hQ; simp -implicitDefEqProofs [Ev.ite_hid Q, x_else, getputw, LIM, -List.map_map, -Bool.if_false_right, -Bool.if_false_left, -Bool.if_true_left, -Bool.if_true_right, g2, hk, obAt, obPut, hset]; refine unhide hQ ?_; clear hQ; clear Q) | (with_reducible refine w_ret ?_; refine Ok_hide ?_; intro Q hQ; simp -implicitDefEqProofs [Ev.ite_hid Q, x_else, getputw, LIM, -List.map_map, -Bool.if_false_right, -Bool.if_false_left, -Bool.if_true_left, -Bool.if_true_right, g2, hk, obAt, obPut, hset]; refine unhide hQ ?_; clear hQ; clear Q) | (with_reducible refine w_app ?_; refine Ok_hide ?_; intro Q hQ; simp -implicitDefEqProofs [Ev.ite_hid Q, x_else, getputw, LIM, -List.map_map, -Bool.if_false_right, -Bool.if_false_left, -Bool.if_true_left, -Bool.if_true_right, g2, hk, obAt, obPut, hset]; refine unhide hQ ?_; clear hQ; clear Q) | (with_reducible refine w_pasg ?_; refine Ok_hide ?_; intro Q hQ; simp -implicitDefEqProofs [Ev.ite_hid Q, x_else, getputw, LIM, -List.map_map, -Bool.if_false_right, -Bool.if_false_left, -Bool.if_true_left, -Bool.if_true_right, g2, hk, obAt, obPut, hset]; refine unhide hQ ?_; clear hQ; clear Q) | (with_reducible refine w_tasg ?_; refine Ok_hide ?_; intro Q hQ; simp -implicitDefEqProofs [Ev.ite_hid Q, x_else, getputw, LIM, -List.map_map, -Bool.if_false_right, -Bool.if_false_left, -Bool.if_true_left, -Bool.if_true_right, g2, hk, obAt, obPut, hset]; refine unhide hQ ?_; clear hQ; clear Q) | (with_reducible refine w_asgo ?_; refine Ok_hide ?_; intro Q hQ; simp -implicitDefEqProofs [Ev.ite_hid Q, x_else, getputw, LIM, -List.map_map, -Bool.if_false_right, -Bool.if_false_left, -Bool.if_true_left, -Bool.if_true_right, g2, hk, obAt, obPut, hset]; refine unhide hQ ?_; clear hQ; clear Q) | (with_reducible refine w_fz ?_; refine Ok_hide ?_; intro Q hQ; simp -implicitDefEqProofs [Ev.ite_hid Q, x_else, getputw, LIM, -List.map_map, -Bool.if_false_right, -Bool.if_false_left, -Bool.if_true_left, -Bool.if_true_right, g2, hk, obAt, obPut, hset]; refine unhide hQ ?_; clear hQ; clear Q) | (with_reducible refine w_setix ?_; refine Ok_hide ?_; intro Q hQ; simp -implicitDefEqProofs [Ev.ite_hid Q, x_else, getputw, LIM, -List.map_map, -Bool.if_false_right, -Bool.if_false_left, -Bool.if_true_left, -Bool.if_true_right, g2, hk, obAt, obPut, hset]; refine unhide hQ ?_; clear hQ; clear Q) | (with_reducible refine w_exp ?_; refine Ok_hide ?_; intro Q hQ; simp -implicitDefEqProofs [Ev.ite_hid Q, x_else, getputw, LIM, -List.map_map, -Bool.if_false_right, -Bool.if_false_left, -Bool.if_true_left, -Bool.if_true_right, g2, hk, obAt, obPut, hset]; refine unhide hQ ?_; clear hQ; clear Q) | (with_reducible refine w_for ?_; refine Ok_hide ?_; intro Q hQ; simp -implicitDefEqProofs [Ev.ite_hid Q, x_else, getputw, LIM, -List.map_map, -Bool.if_false_right, -Bool.if_false_left, -Bool.if_true_left, -Bool.if_true_right, g2, hk, obAt, obPut, hset]; refine unhide hQ ?_; clear hQ; clear Q) | (with_reducible refine w_ite ?_; refine Ok_hide ?_; intro Q hQ; simp -implicitDefEqProofs [Ev.ite_hid Q, x_else, getputw, LIM, -List.map_map, -Bool.if_false_right, -Bool.if_false_left, -Bool.if_true_left, -Bool.if_true_right, g2, hk, obAt, obPut, hset]; refine unhide hQ ?_; clear hQ; clear Q; first | refine c2_t ?_ | refine c2_f ?_) | (with_reducible refine w_shr (by simp [getputw]; rfl) ?_)))
    refine ⟨rfl, by simp -implicitDefEqProofs [getputw, g0], by simp -implicitDefEqProofs [getputw, g1], aput ((j : Int), (j : Int)) 0 m, by simp -implicitDefEqProofs [getputw], Nat.le_trans (aput_len _ _ _) (by omega), fun lo h0 h1 => ?_⟩
    rw [alook_aput]
    by_cases z : lo = j
    · rw [z, if_pos rfl]
    · rw [if_neg (fun q => z (congrArg Prod.fst q))]
      exact hz lo h0 (by omega)
  · subst e0
    have hT0 : Tab w m 0 := fun lo hi h0 h1 h2 h3 => by
      have : lo = hi := by omega
      subst this
      rw [hz lo h0 (by omega)]
      have : seg w lo lo = [] := by unfold seg; rw [show (lo - lo).toNat = 0 by omega]; rfl
      rw [this, best_nil]
    ((repeat (first | with_reducible refine w_assoc ?_ | with_reducible refine w_skip ?_ | with_reducible refine w_pass ?_)); with_reducible refine w_for ?_; refine Ok_hide ?_; intro Q hQ; simp -implicitDefEqProofs [Ev.ite_hid Q, x_else, getputw, LIM, -List.map_map, -Bool.if_false_right, -Bool.if_false_left, -Bool.if_true_left, -Bool.if_true_right, g1])
    rw [rngD_two (by decide) (by decide) (by omega) (by omega), lift_some, Ok_ok]
    have e2 : ((w.length : Int) + 1 - 1).toNat = w.length := by omega
    rw [e2]
    (refine unhide hQ ?_; clear hQ; clear Q)
    refine Forx.rng (fun j ρ s => s = st' ∧ get ρ 0 = .v (tabD w) ∧ get ρ 1 = .v (.int w.length) ∧ ∃ m : List ((Int × Int) × Int), get ρ 2 = .own (.dct true (encD keyP .int m)) ∧ m.length ≤ 20 + 20 * j ∧ Tab w m (j : Int)) ⟨rfl, g0, g1, m, g2, by omega, hT0⟩ (fun j ρ s hj ⟨e0, g0, g1, m, g2, hm, hT⟩ => ?_) fun ρ s ⟨e0, g0, g1, m, g2, hm, hT⟩ => ?_
    · subst e0
      ((repeat (first | with_reducible refine w_assoc ?_ | with_reducible refine w_skip ?_ | with_reducible refine w_pass ?_)); with_reducible refine w_for ?_; refine Ok_hide ?_; intro Q hQ; simp -implicitDefEqProofs [Ev.ite_hid Q, x_else, getputw, LIM, -List.map_map, -Bool.if_false_right, -Bool.if_false_left, -Bool.if_true_left, -Bool.if_true_right, g1])
      rw [rngD_one (by omega) (by omega), lift_some, Ok_ok]
      have e3 : ((w.length : Int) - (1 + (j : Int)) + 1).toNat = w.length - j := by omega
      rw [e3]
      (refine unhide hQ ?_; clear hQ; clear Q)
      refine Forx.rng (fun i ρ s' => s' = s ∧ get ρ 0 = .v (tabD w) ∧ get ρ 1 = .v (.int w.length) ∧ get ρ 4 = .v (.int (1 + (j : Int))) ∧ ∃ m : List ((Int × Int) × Int), get ρ 2 = .own (.dct true (encD keyP .int m)) ∧ m.length ≤ 20 + 20 * j + i ∧ Tab w m (j : Int) ∧ ∀ lo : Int, 0 ≤ lo → lo < i → alook (lo, lo + (1 + (j : Int))) m = some (best (seg w lo (lo + (1 + (j : Int))))))
        ⟨rfl, by simp -implicitDefEqProofs [getputw, g0], by simp -implicitDefEqProofs [getputw, g1], by simp -implicitDefEqProofs [getputw], m, by simp -implicitDefEqProofs [getputw, g2], by omega, hT, fun lo h0 h1 => by omega⟩ (fun i ρ s' hi ⟨e0, g0, g1, g4, m, g2, hm, hT, hN⟩ => ?_) fun ρ s' ⟨e0, g0, g1, g4, m, g2, hm, hT, hN⟩ => ?_
      · subst e0
        have hwd : (i : Int) + (1 + (j : Int)) ≤ w.length := by omega
        have hS : (seg w i ((i : Int) + (1 + (j : Int)))).length = 1 + j := by rw [seg_len (by omega) (by omega) hwd]; omega
        have hSn : seg w i ((i : Int) + (1 + (j : Int))) ≠ [] := fun z => by rw [z] at hS; simp at hS; omega
        have hbe := best_eq hSn
        have hmin := bi_min1 (minL_some (parts_ne hSn))
        have hsl := slD_tab (w := w) (lo := i) (hi := (i : Int) + (1 + (j : Int))) (by omega) (by omega) hwd
        have hrd : rngD [.int (i : Int), .int ((i : Int) + (1 + (j : Int)))] = some ((List.range (1 + j)).map fun (x : Nat) => .int ((i : Int) + (x : Int))) := by
          rw [rngD_two (by omega) (by omega) (by omega) (by omega), rngL_map]
          have e4 : ((i : Int) + (1 + (j : Int)) - i).toNat = 1 + j := by omega
          rw [e4]
        have hlc : ∀ ρ', get ρ' 2 = .own (.dct true (encD keyP .int m)) → get ρ' 3 = .v (.int (i : Int)) → get ρ' 5 = .v (.int ((i : Int) + (1 + (j : Int)))) → lcS (FF md.Δ md.Γ n) md.Γ (.bin .add (.ix (.bor 2) (.tup (.cons (.var 3) (.cons (.var 7) .nil)))) (.ix (.bor 2) (.tup (.cons (.bin .add (.var 7) (.cint 1)) (.cons (.var 5) .nil))))) (.one 7) .nil ρ' ((List.range (1 + j)).map fun (x : Nat) => .int ((i : Int) + (x : Int))) s' = .ok (.lst ((partsF (seg w i ((i : Int) + (1 + (j : Int))))).map .int)) s' := fun ρ' k2 k3 k5 => by
          rw [lcS_map0 (fun (x : Nat) => .int (best ((seg w i ((i : Int) + (1 + (j : Int)))).take x) + best ((seg w i ((i : Int) + (1 + (j : Int)))).drop (x + 1)))) _ _ (by rw [List.length_range]; show _ ≤ 16777216; omega) (fun x hx => ⟨_, rfl, ?_⟩)]
          · unfold partsF
            rw [hS, List.map_map]
            rfl
          · have hx := List.mem_range.mp hx
            have l1 := hT i ((i : Int) + (x : Int)) (by omega) (by omega) (by omega) (by omega)
            have l2 := hT ((i : Int) + (x : Int) + 1) ((i : Int) + (1 + (j : Int))) (by omega) (by omega) (by omega) (by omega)
            rw [seg_take (hi := (i : Int) + (1 + (j : Int))) (by omega) (by omega)] at l1
            rw [seg_drop (by omega) (by omega)] at l2
            have a1 := atD_enc (kd := true) (vf := D.int) en_keyP (by decide) (keyP_ok _) l1
            have a2 := atD_enc (kd := true) (vf := D.int) en_keyP (by decide) (keyP_ok _) l2
            have b1 : D.tup [.int (i : Int), .int ((i : Int) + (x : Int))] = keyP ((i : Int), (i : Int) + (x : Int)) := rfl
            have b2 : D.tup [.int ((i : Int) + (x : Int) + 1), .int ((i : Int) + (1 + (j : Int)))] = keyP ((i : Int) + (x : Int) + 1, (i : Int) + (1 + (j : Int))) := rfl
            (simp -implicitDefEqProofs [x_else, getputw, LIM, -List.map_map, -Bool.if_false_right, -Bool.if_false_left, -Bool.if_true_left, -Bool.if_true_right, k2, k3, k5, b1, b2, a1, a2])
        have hk : D.tup [.int (i : Int), .int ((i : Int) + (1 + (j : Int)))] = keyP ((i : Int), (i : Int) + (1 + (j : Int))) := rfl
        have hset := setD_enc (kd := true) (vf := D.int) en_keyP (by decide) (x := ((i : Int), (i : Int) + (1 + (j : Int)))) (v := best (seg w i ((i : Int) + (1 + (j : Int))))) (m := m) (keyP_ok _) (by omega)
        rw [hbe] at hset
        (repeat (first | with_reducible refine w_assoc ?_ | with_reducible refine w_skip ?_ | with_reducible refine w_pass ?_ | with_reducible refine w_end ?_ | with_reducible refine w_brk ?_ | with_reducible refine w_cnt ?_ | (with_reducible refine w_asg ?_; refine Ok_hide ?_; intro Q hQ; simp -implicitDefEqProofs [Ev.ite_hid Q, x_else, getputw, LIM, -List.map_map, -Bool.if_false_right, -Bool.if_false_left, -Bool.if_true_left, -Bool.if_true_right, g0, g1, g2, g4, hrd, hlc, optI, hsl, bi_sum_tab, hmin, hk, obAt, obPut, hset]; refine unhide hQ ?_; clear hQ; clear Q) | (with_reducible refine w_ret ?_; refine Ok_hide ?_; intro Q hQ; simp -implicitDefEqProofs [Ev.ite_hid Q, x_else, getputw, LIM, -List.map_map, -Bool.if_false_right, -Bool.if_false_left, -Bool.if_true_left, -Bool.if_true_right, g0, g1, g2, g4, hrd, hlc, optI, hsl, bi_sum_tab, hmin, hk, obAt, obPut, hset]; refine unhide hQ ?_; clear hQ; clear Q) | (with_reducible refine w_app ?_; refine Ok_hide ?_; intro Q hQ; simp -implicitDefEqProofs [Ev.ite_hid Q, x_else, getputw, LIM, -List.map_map, -Bool.if_false_right, -Bool.if_false_left, -Bool.if_true_left, -Bool.if_true_right, g0, g1, g2, g4, hrd, hlc, optI, hsl, bi_sum_tab, hmin, hk, obAt, obPut, hset]; refine unhide hQ ?_; clear hQ; clear Q) | (with_reducible refine w_pasg ?_; refine Ok_hide ?_; intro Q hQ; simp -implicitDefEqProofs [Ev.ite_hid Q, x_else, getputw, LIM, -List.map_map, -Bool.if_false_right, -Bool.if_false_left, -Bool.if_true_left, -Bool.if_true_right, g0, g1, g2, g4, hrd, hlc, optI, hsl, bi_sum_tab, hmin, hk, obAt, obPut, hset]; refine unhide hQ ?_; clear hQ; clear Q) | (with_reducible refine w_tasg ?_; refine Ok_hide ?_; intro Q hQ; simp -implicitDefEqProofs [Ev.ite_hid Q, x_else, getputw, LIM, -List.map_map, -Bool.if_false_right, -Bool.if_false_left, -Bool.if_true_left, -Bool.if_true_right, g0, g1, g2, g4, hrd, hlc, optI, hsl, bi_sum_tab, hmin, hk, obAt, obPut, hset]; refine unhide hQ ?_; clear hQ; clear Q) | (with_reducible refine w_asgo ?_; refine Ok_hide ?_; intro Q hQ; simp -implicitDefEqProofs [Ev.ite_hid Q, x_else, getputw, LIM, -List.map_map, -Bool.if_false_right, -Bool.if_false_left, -Bool.if_true_left, -Bool.if_true_right, g0, g1, g2, g4, hrd, hlc, optI, hsl, bi_sum_tab, hmin, hk, obAt, obPut, hset]; refine unhide hQ ?_; clear hQ; clear Q) | (with_reducible refine w_fz ?_; refine Ok_hide ?_; intro Q hQ; simp -implicitDefEqProofs [Ev.ite_hid Q, x_else, getputw, LIM, -List.map_map, -Bool.if_false_right, -Bool.if_false_left, -Bool.if_true_left, -Bool.if_true_right, g0, g1, g2, g4, hrd, hlc, optI, hsl, bi_sum_tab, hmin, hk, obAt, obPut, hset]; refine unhide hQ ?_; clear hQ; clear Q) | (with_reducible refine w_setix ?_; refine Ok_hide ?_; intro Q hQ; simp -implicitDefEqProofs [Ev.ite_hid Q, x_else, getputw, LIM, -List.map_map, -Bool.if_false_right, -Bool.if_false_left, -Bool.if_true_left, -Bool.if_true_right, g0, g1, g2, g4, hrd, hlc, optI, hsl, bi_sum_tab, hmin, hk, obAt, obPut, hset]; refine unhide hQ ?_; clear hQ; clear Q) | (with_reducible refine w_exp ?_; refine Ok_hide ?_; intro Q hQ; simp -implicitDefEqProofs [Ev.ite_hid Q, x_else, getputw, LIM, -List.map_map, -Bool.if_false_right, -Bool.if_false_left, -Bool.if_true_left, -Bool.if_true_right, g0, g1, g2, g4, hrd, hlc, optI, hsl, bi_sum_tab, hmin, hk, obAt, obPut, hset]; refine unhide hQ ?_; clear hQ; clear Q) | (with_reducible refine w_for ?_; refine Ok_hide ?_; intro Q hQ; simp -implicitDefEqProofs [Ev.ite_hid Q, x_else, getputw, LIM, -List.map_map, -Bool.if_false_right, -Bool.if_false_left, -Bool.if_true_left, -Bool.if_true_right, g0, g1, g2, g4, hrd, hlc, optI, hsl, bi_sum_tab, hmin, hk, obAt, obPut, hset]; refine unhide hQ ?_; clear hQ; clear Q) | (with_reducible refine w_ite ?_; refine Ok_hide ?_; intro Q hQ; simp -implicitDefEqProofs [Ev.ite_hid Q, x_else, getputw, LIM, -List.map_map, -Bool.if_false_right, -Bool.if_false_left, -Bool.if_true_left, -Bool.if_true_right, g0, g1, g2, g4, hrd, hlc, optI, hsl, bi_sum_tab, hmin, hk, obAt, obPut, hset]; refine unhide hQ ?_; clear hQ; clear Q; first | refine c2_t ?_ | refine c2_f ?_) | (with_reducible refine w_shr (by simp [getputw]; rfl) ?_)))
        refine ⟨rfl, by simp -implicitDefEqProofs [getputw, g0], by simp -implicitDefEqProofs [getputw, g1], by simp -implicitDefEqProofs [getputw, g4], aput ((i : Int), (i : Int) + (1 + (j : Int))) (best (seg w i ((i : Int) + (1 + (j : Int))))) m, by simp -implicitDefEqProofs [getputw, hbe], Nat.le_trans (aput_len _ _ _) (by omega), fun lo hi h0 h1 h2 h3 => ?_, fun lo h0 h1 => ?_⟩
        · rw [alook_aput, if_neg (fun q => by
            have q1 := congrArg Prod.fst q
            have q2 := congrArg Prod.snd q
            simp only at q1 q2
            omega)]
          exact hT lo hi h0 h1 h2 h3
        · rw [alook_aput]
          by_cases z : lo = i
          · subst z
            rw [if_pos rfl]
          · rw [if_neg (fun q => z (congrArg Prod.fst q))]
            exact hN lo h0 (by omega)
      · subst e0
        (repeat (first | with_reducible refine w_assoc ?_ | with_reducible refine w_skip ?_ | with_reducible refine w_pass ?_ | with_reducible refine w_end ?_ | with_reducible refine w_brk ?_ | with_reducible refine w_cnt ?_ | (with_reducible refine w_asg ?_; refine Ok_hide ?_; intro Q hQ; simp -implicitDefEqProofs [Ev.ite_hid Q, x_else, getputw, LIM, -List.map_map, -Bool.if_false_right, -Bool.if_false_left, -Bool.if_true_left, -Bool.if_true_right]; refine unhide hQ ?_; clear hQ; clear Q) | (with_reducible refine w_ret ?_; refine Ok_hide ?_; intro Q hQ; simp -implicitDefEqProofs [Ev.ite_hid Q, x_else, getputw, LIM, -List.map_map, -Bool.if_false_right, -Bool.if_false_left, -Bool.if_true_left, -Bool.if_true_right]; refine unhide hQ ?_; clear hQ; clear Q) | (with_reducible refine w_app ?_; refine Ok_hide ?_; intro Q hQ; simp -implicitDefEqProofs [Ev.ite_hid Q, x_else, getputw, LIM, -List.map_map, -Bool.if_false_right, -Bool.if_false_left, -Bool.if_true_left, -Bool.if_true_right]; refine unhide hQ ?_; clear hQ; clear Q) | (with_reducible refine w_pasg ?_; refine Ok_hide ?_; intro Q hQ; simp -implicitDefEqProofs [Ev.ite_hid Q, x_else, getputw, LIM, -List.map_map, -Bool.if_false_right, -Bool.if_false_left, -Bool.if_true_left, -Bool.if_true_right]; refine unhide hQ ?_; clear hQ; clear Q) | (with_reducible refine w_tasg ?_; refine Ok_hide ?_; intro Q hQ; simp -implicitDefEqProofs [Ev.ite_hid Q, x_else, getputw, LIM, -List.map_map, -Bool.if_false_right, -Bool.if_false_left, -Bool.if_true_left, -Bool.if_true_right]; refine unhide hQ ?_; clear hQ; clear Q) | (with_reducible refine w_asgo ?_; refine Ok_hide ?_; intro Q hQ; simp -implicitDefEqProofs [Ev.ite_hid Q, x_else, getputw, LIM, -List.map_map, -Bool.if_false_right, -Bool.if_false_left, -Bool.if_true_left, -Bool.if_true_right]; refine unhide hQ ?_; clear hQ; clear Q) | (with_reducible refine w_fz ?_; refine Ok_hide ?_; intro Q hQ; simp -implicitDefEqProofs [Ev.ite_hid Q, x_else, getputw, LIM, -List.map_map, -Bool.if_false_right, -Bool.if_false_left, -Bool.if_true_left, -Bool.if_true_right]; refine unhide hQ ?_; clear hQ; clear Q) | (with_reducible refine w_setix ?_; refine Ok_hide ?_; intro Q hQ; simp -implicitDefEqProofs [Ev.ite_hid Q, x_else, getputw, LIM, -List.map_map, -Bool.if_false_right, -Bool.if_false_left, -Bool.if_true_left, -Bool.if_true_right]; refine unhide hQ ?_; clear hQ; clear Q) | (with_reducible refine w_exp ?_; refine Ok_hide ?_; intro Q hQ; simp -implicitDefEqProofs [Ev.ite_hid Q, x_else, getputw, LIM, -List.map_map, -Bool.if_false_right, -Bool.if_false_left, -Bool.if_true_left, -Bool.if_true_right]; refine unhide hQ ?_; clear hQ; clear Q) | (with_reducible refine w_for ?_; refine Ok_hide ?_; intro Q hQ; simp -implicitDefEqProofs [Ev.ite_hid Q, x_else, getputw, LIM, -List.map_map, -Bool.if_false_right, -Bool.if_false_left, -Bool.if_true_left, -Bool.if_true_right]; refine unhide hQ ?_; clear hQ; clear Q) | (with_reducible refine w_ite ?_; refine Ok_hide ?_; intro Q hQ; simp -implicitDefEqProofs [Ev.ite_hid Q, x_else, getputw, LIM, -List.map_map, -Bool.if_false_right, -Bool.if_false_left, -Bool.if_true_left, -Bool.if_true_right]; refine unhide hQ ?_; clear hQ; clear Q; first | refine c2_t ?_ | refine c2_f ?_) | (with_reducible refine w_shr (by simp [getputw]; rfl) ?_)))
        refine ⟨rfl, g0, g1, m, g2, by omega, fun lo hi h0 h1 h2 h3 => ?_⟩
        by_cases z : hi - lo ≤ j
        · exact hT lo hi h0 h1 h2 z
        · have : hi = lo + (1 + (j : Int)) := by omega
          subst this
          exact hN lo h0 (by omega)
    · subst e0
      (repeat (first | with_reducible refine w_assoc ?_ | with_reducible refine w_skip ?_ | with_reducible refine w_pass ?_ | with_reducible refine w_end ?_ | with_reducible refine w_brk ?_ | with_reducible refine w_cnt ?_ | (with_reducible refine w_asg ?_; refine Ok_hide ?_; intro Q hQ; simp -implicitDefEqProofs [Ev.ite_hid Q, x_else, getputw, LIM, -List.map_map, -Bool.if_false_right, -Bool.if_false_left, -Bool.if_true_left, -Bool.if_true_right, g2]; refine unhide hQ ?_; clear hQ; clear Q) | (with_reducible refine w_ret ?_; refine Ok_hide ?_; intro Q hQ; simp -implicitDefEqProofs [Ev.ite_hid Q, x_else, getputw, LIM, -List.map_map, -Bool.if_false_right, -Bool.if_false_left, -Bool.if_true_left, -Bool.if_true_right, g2]; refine unhide hQ ?_; clear hQ; clear Q) | (with_reducible refine w_app ?_; refine Ok_hide ?_; intro Q hQ; simp -implicitDefEqProofs [Ev.ite_hid Q, x_else, getputw, LIM, -List.map_map, -Bool.if_false_right, -Bool.if_false_left, -Bool.if_true_left, -Bool.if_true_right, g2]; refine unhide hQ ?_; clear hQ; clear Q) | (with_reducible refine w_pasg ?_; refine Ok_hide ?_; intro Q hQ; simp -implicitDefEqProofs [Ev.ite_hid Q, x_else, getputw, LIM, -List.map_map, -Bool.if_false_right, -Bool.if_false_left, -Bool.if_true_left, -Bool.if_true_right, g2]; refine unhide hQ ?_; clear hQ; clear Q) | (with_reducible refine w_tasg ?_; refine Ok_hide ?_; intro Q hQ; simp -implicitDefEqProofs [Ev.ite_hid Q, x_else, getputw, LIM, -List.map_map, -Bool.if_false_right, -Bool.if_false_left, -Bool.if_true_left, -Bool.if_true_right, g2]; refine unhide hQ ?_; clear hQ; clear Q) | (with_reducible refine w_asgo ?_; refine Ok_hide ?_; intro Q hQ; simp -implicitDefEqProofs [Ev.ite_hid Q, x_else, getputw, LIM, -List.map_map, -Bool.if_false_right, -Bool.if_false_left, -Bool.if_true_left, -Bool.if_true_right, g2]; refine unhide hQ ?_; clear hQ; clear Q) | (with_reducible refine w_fz ?_; refine Ok_hide ?_; intro Q hQ; simp -implicitDefEqProofs [Ev.ite_hid Q, x_else, getputw, LIM, -List.map_map, -Bool.if_false_right, -Bool.if_false_left, -Bool.if_true_left, -Bool.if_true_right, g2]; refine unhide hQ ?_; clear hQ; clear Q) | (with_reducible refine w_setix ?_; refine Ok_hide ?_; intro Q hQ; simp -implicitDefEqProofs [Ev.ite_hid Q, x_else, getputw, LIM, -List.map_map, -Bool.if_false_right, -Bool.if_false_left, -Bool.if_true_left, -Bool.if_true_right, g2]; refine unhide hQ ?_; clear hQ; clear Q) | (with_reducible refine w_exp ?_; refine Ok_hide ?_; intro Q hQ; simp -implicitDefEqProofs [Ev.ite_hid Q, x_else, getputw, LIM, -List.map_map, -Bool.if_false_right, -Bool.if_false_left, -Bool.if_true_left, -Bool.if_true_right, g2]; refine unhide hQ ?_; clear hQ; clear Q) | (with_reducible refine w_for ?_; refine Ok_hide ?_; intro Q hQ; simp -implicitDefEqProofs [Ev.ite_hid Q, x_else, getputw, LIM, -List.map_map, -Bool.if_false_right, -Bool.if_false_left, -Bool.if_true_left, -Bool.if_true_right, g2]; refine unhide hQ ?_; clear hQ; clear Q) | (with_reducible refine w_ite ?_; refine Ok_hide ?_; intro Q hQ; simp -implicitDefEqProofs [Ev.ite_hid Q, x_else, getputw, LIM, -List.map_map, -Bool.if_false_right, -Bool.if_false_left, -Bool.if_true_left, -Bool.if_true_right, g2]; refine unhide hQ ?_; clear hQ; clear Q; first | refine c2_t ?_ | refine c2_f ?_) | (with_reducible refine w_shr (by simp [getputw]; rfl) ?_)))
      exact ⟨rfl, m, rfl, hT⟩

-- needs: wgt
theorem parts_get {w : List Int} {i : Nat} (hi : i < w.length) : best (w.take i) + best (w.drop (i + 1)) ∈ partsF w := List.mem_map.mpr ⟨i, List.mem_range.mpr hi, rfl⟩
theorem ne_of_lt {α : Type} {w : List α} {i : Nat} (hi : i < w.length) : w ≠ [] := fun z => by rw [z] at hi; cases hi
theorem best_le {w : List Int} {i : Nat} (hi : i < w.length) : best w ≤ w.sum + (best (w.take i) + best (w.drop (i + 1))) := by
  rw [best_eq (ne_of_lt hi)]
  have := mn_le (parts_get hi)
  omega
theorem best_at {w : List Int} (h : w ≠ []) : ∃ i, i < w.length ∧ best w = w.sum + (best (w.take i) + best (w.drop (i + 1))) := by
  obtain ⟨i, hi, e⟩ := List.mem_map.mp (mn_mem (parts_ne h))
  refine ⟨i, List.mem_range.mp hi, ?_⟩
  have e : best (w.take i) + best (w.drop (i + 1)) = mn (partsF w) := e
  rw [best_eq h, ← e]
theorem ind_len {P : List Int → Prop} (h : ∀ w, (∀ u : List Int, u.length < w.length → P u) → P w) (w : List Int) : P w := by
  have : ∀ n (w : List Int), w.length < n → P w := by
    intro n
    induction n with
    | zero => intro w hw; omega
    | succ n ih => intro w hw; exact h w fun u hu => ih u (by omega)
  exact this _ w (Nat.lt_succ_self _)
theorem sum_split (w : List Int) {i : Nat} (hi : i < w.length) : w.sum = (w.take i).sum + w[i] + (w.drop (i + 1)).sum := by
  have : w = w.take i ++ w[i] :: w.drop (i + 1) := by rw [List.getElem_cons_drop, List.take_append_drop]
  conv => lhs; rw [this]
  rw [List.sum_append, List.sum_cons]
  omega
theorem sum_nonneg : ∀ {w : List Int}, (∀ x ∈ w, 0 ≤ x) → 0 ≤ w.sum
  | [], _ => Int.le_refl _
  | x :: w, h => by
    rw [List.sum_cons]
    have := h x (List.mem_cons_self ..)
    have := sum_nonneg fun y hy => h y (List.mem_cons_of_mem x hy)
    omega
theorem best_nonneg (w : List Int) (h : ∀ x ∈ w, 0 ≤ x) : 0 ≤ best w := by
  revert h
  refine ind_len (P := fun w => (∀ x ∈ w, 0 ≤ x) → 0 ≤ best w) (fun w ih h => ?_) w
  by_cases hw : w = []
  · rw [hw, best_nil]; exact Int.le_refl _
  · obtain ⟨i, hi, e⟩ := best_at hw
    have := ih (w.take i) (by rw [List.length_take]; omega) fun x hx => h x (List.mem_of_mem_take hx)
    have := ih (w.drop (i + 1)) (by rw [List.length_drop]; omega) fun x hx => h x (List.mem_of_mem_drop hx)
    have := sum_nonneg h
    omega
theorem sum_le_best {w : List Int} (h : ∀ x ∈ w, 0 ≤ x) : w.sum ≤ best w := by
  by_cases hw : w = []
  · rw [hw, best_nil]; exact Int.le_refl _
  · obtain ⟨i, hi, e⟩ := best_at hw
    have := best_nonneg (w.take i) fun x hx => h x (List.mem_of_mem_take hx)
    have := best_nonneg (w.drop (i + 1)) fun x hx => h x (List.mem_of_mem_drop hx)
    omega
/-- one row less -/
theorem best_del (w : List Int) (h : ∀ x ∈ w, 0 ≤ x) : ∀ j, j < w.length → best (w.take j ++ w.drop (j + 1)) ≤ best w := by
  revert h
  refine ind_len (P := fun w => (∀ x ∈ w, 0 ≤ x) → ∀ j, j < w.length → best (w.take j ++ w.drop (j + 1)) ≤ best w) (fun w ih h j hj => ?_) w
  have hw := ne_of_lt hj
  obtain ⟨r, hr, e⟩ := best_at hw
  rw [e]
  have hs := sum_split w hj
  have hj0 := h _ (List.getElem_mem hj)
  have hsum : (w.take j ++ w.drop (j + 1)).sum ≤ w.sum := by rw [List.sum_append]; omega
  have hlen : (w.take j ++ w.drop (j + 1)).length = w.length - 1 := by rw [List.length_append, List.length_take, List.length_drop]; omega
  by_cases hjr : j < r
  · -- left of the root
    have hr' : r - 1 < (w.take j ++ w.drop (j + 1)).length := by omega
    have b := best_le hr'
    have e1 : (w.take j ++ w.drop (j + 1)).take (r - 1) = (w.take r).take j ++ (w.take r).drop (j + 1) := by
      rw [List.take_append, List.length_take, List.take_take, List.take_take, List.drop_take, show min (r - 1) j = j by omega, show min j r = j by omega, show min j w.length = j by omega]
      congr 2
      omega
    have e2 : (w.take j ++ w.drop (j + 1)).drop (r - 1 + 1) = w.drop (r + 1) := by
      rw [List.drop_append, List.length_take, List.drop_of_length_le (by rw [List.length_take]; omega), List.nil_append, List.drop_drop]
      congr 1
      omega
    rw [e1, e2] at b
    have := ih (w.take r) (by rw [List.length_take]; omega) (fun x hx => h x (List.mem_of_mem_take hx)) j (by rw [List.length_take]; omega)
    omega
  · by_cases hrj : r < j
    · have hr' : r < (w.take j ++ w.drop (j + 1)).length := by omega
      have b := best_le hr'
      have e1 : (w.take j ++ w.drop (j + 1)).take r = w.take r := by
        rw [List.take_append, List.take_take, List.length_take, Nat.min_eq_left (by omega : r ≤ j), show r - min j w.length = 0 by omega, List.take_zero, List.append_nil]
      have e2 : (w.take j ++ w.drop (j + 1)).drop (r + 1) = (w.drop (r + 1)).take (j - (r + 1)) ++ (w.drop (r + 1)).drop (j - (r + 1) + 1) := by
        rw [List.drop_append, List.length_take, List.drop_take, show r + 1 - min j w.length = 0 by omega, List.drop_zero, List.drop_drop]
        congr 2
        omega
      rw [e1, e2] at b
      have := ih (w.drop (r + 1)) (by rw [List.length_drop]; omega) (fun x hx => h x (List.mem_of_mem_drop hx)) (j - (r + 1)) (by rw [List.length_drop]; omega)
      omega
    · have hjr : j = r := by omega
      subst hjr
      by_cases hR : j + 1 < w.length
      · -- the next row becomes the root
        have hr' : j < (w.take j ++ w.drop (j + 1)).length := by omega
        have b := best_le hr'
        have e1 : (w.take j ++ w.drop (j + 1)).take j = w.take j := by
          rw [List.take_append, List.take_take, Nat.min_self, List.length_take, show j - min j w.length = 0 by omega, List.take_zero, List.append_nil]
        have e2 : (w.take j ++ w.drop (j + 1)).drop (j + 1) = (w.drop (j + 1)).take 0 ++ (w.drop (j + 1)).drop (0 + 1) := by
          rw [List.drop_append, List.length_take, List.drop_of_length_le (by rw [List.length_take]; omega), List.take_zero]
          congr 2
          omega
        rw [e1, e2] at b
        have := ih (w.drop (j + 1)) (by rw [List.length_drop]; omega) (fun x hx => h x (List.mem_of_mem_drop hx)) 0 (by rw [List.length_drop]; omega)
        omega
      · have e2 : w.drop (j + 1) = [] := List.drop_of_length_le (by omega)
        rw [e2, List.append_nil, best_nil]
        have := sum_nonneg h
        omega
/-- one weight more -/
theorem set_take {w : List Int} {j i : Nat} {v : Int} : (w.set j v).take i = if j < i then (w.take i).set j v else w.take i := by
  rw [List.take_set]
  split
  · rfl
  · rw [List.set_eq_of_length_le (by rw [List.length_take]; omega)]
theorem set_drop {w : List Int} {j i : Nat} {v : Int} : (w.set j v).drop i = if j < i then w.drop i else (w.drop i).set (j - i) v := by
  rw [List.drop_set]
theorem sum_set {w : List Int} {j : Nat} (hj : j < w.length) (v : Int) : (w.set j v).sum = w.sum - w[j] + v := by
  have h1 := sum_split w hj
  have h2 := sum_split (w.set j v) (i := j) (by rw [List.length_set]; exact hj)
  rw [set_take, set_drop, if_neg (Nat.lt_irrefl _), if_pos (Nat.lt_succ_self _), List.getElem_set_self] at h2
  omega
theorem best_more (w : List Int) : ∀ j, ∀ hj : j < w.length, best w + 1 ≤ best (w.set j (w[j] + 1)) ∧ best (w.set j (w[j] + 1)) ≤ best w + w.length := by
  refine ind_len (P := fun w => ∀ j, ∀ hj : j < w.length, best w + 1 ≤ best (w.set j (w[j] + 1)) ∧ best (w.set j (w[j] + 1)) ≤ best w + w.length) (fun w ih j hj => ?_) w
  have hw := ne_of_lt hj
  have hsum := sum_set hj (w[j] + 1)
  have hw' : w.set j (w[j] + 1) ≠ [] := fun z => by have := congrArg List.length z; rw [List.length_set] at this; simp at this; exact hw this
  have part : ∀ r, r < w.length → best (w.take r) + best (w.drop (r + 1)) ≤ best ((w.set j (w[j] + 1)).take r) + best ((w.set j (w[j] + 1)).drop (r + 1)) ∧ best ((w.set j (w[j] + 1)).take r) + best ((w.set j (w[j] + 1)).drop (r + 1)) ≤ best (w.take r) + best (w.drop (r + 1)) + (w.length - 1) := fun r hr => by
    rw [set_take, set_drop]
    by_cases h1 : j < r
    · rw [if_pos h1, if_pos (by omega)]
      have hjt : j < (w.take r).length := by rw [List.length_take]; omega
      have := ih (w.take r) (by rw [List.length_take]; omega) j hjt
      rw [List.getElem_take] at this
      have hl : (w.take r).length = r := by rw [List.length_take]; omega
      omega
    · rw [if_neg h1]
      by_cases h2 : j < r + 1
      · rw [if_pos h2]
        omega
      · rw [if_neg h2]
        have hjt : j - (r + 1) < (w.drop (r + 1)).length := by rw [List.length_drop]; omega
        have := ih (w.drop (r + 1)) (by rw [List.length_drop]; omega) (j - (r + 1)) hjt
        have hg : (w.drop (r + 1))[j - (r + 1)] = w[j] := by
          rw [List.getElem_drop]
          congr 1
          omega
        rw [hg] at this
        have hl : (w.drop (r + 1)).length = w.length - (r + 1) := List.length_drop ..
        omega
  constructor
  · obtain ⟨r, hr, e⟩ := best_at hw'
    rw [List.length_set] at hr
    have := (part r hr).1
    have := best_le hr
    omega
  · obtain ⟨r, hr, e⟩ := best_at hw
    have := (part r hr).2
    have := best_le (w := w.set j (w[j] + 1)) (i := r) (by rw [List.length_set]; exact hr)
    omega
/-- sums of weights -/
theorem zip_sum : ∀ (a b : List Int), a.length = b.length → (List.zipWith (· + ·) a b).sum = a.sum + b.sum
  | [], [], _ => rfl
  | x :: a, y :: b, h => by
    rw [List.zipWith_cons_cons, List.sum_cons, List.sum_cons, List.sum_cons, zip_sum a b (by simpa using h)]
    omega
  | [], _ :: _, h => by simp at h
  | _ :: _, [], h => by simp at h
theorem best_add : ∀ (a b : List Int), a.length = b.length → best a + best b ≤ best (List.zipWith (· + ·) a b) := by
  intro a
  refine ind_len (P := fun a => ∀ b : List Int, a.length = b.length → best a + best b ≤ best (List.zipWith (· + ·) a b)) (fun a ih b hab => ?_) a
  by_cases ha : a = []
  · subst ha
    have : b = [] := List.length_eq_zero_iff.mp hab.symm
    subst this
    exact Int.le_refl _
  · have hz : List.zipWith (· + ·) a b ≠ [] := fun z => ha (by
      have := congrArg List.length z
      rw [List.length_zipWith, ← hab, Nat.min_self] at this
      exact List.length_eq_zero_iff.mp this)
    obtain ⟨r, hr, e⟩ := best_at hz
    rw [List.length_zipWith, ← hab, Nat.min_self] at hr
    rw [e, List.take_zipWith, List.drop_zipWith, zip_sum a b hab]
    have h1 := ih (a.take r) (by rw [List.length_take]; omega) (b.take r) (by rw [List.length_take, List.length_take, hab])
    have h2 := ih (a.drop (r + 1)) (by rw [List.length_drop]; omega) (b.drop (r + 1)) (by rw [List.length_drop, List.length_drop, hab])
    have h3 := best_le hr
    have h4 := best_le (w := b) (i := r) (by omega)
    omega
theorem map_sum2 : ∀ (w : List Int), (w.map (2 * ·)).sum = 2 * w.sum
  | [] => rfl
  | x :: w => by rw [List.map_cons, List.sum_cons, List.sum_cons, map_sum2 w]; omega
theorem mn_map2 {l : List Int} (h : l ≠ []) : mn (l.map (2 * ·)) = 2 * mn l := by
  refine mn_eq (List.mem_map.mpr ⟨_, mn_mem h, rfl⟩) fun x hx => ?_
  obtain ⟨y, hy, rfl⟩ := List.mem_map.mp hx
  have := mn_le hy
  show 2 * mn l ≤ 2 * y
  omega
theorem best_two (w : List Int) : best (w.map (2 * ·)) = 2 * best w := by
  refine ind_len (P := fun w => best (w.map (2 * ·)) = 2 * best w) (fun w ih => ?_) w
  by_cases hw : w = []
  · subst hw; rfl
  · rw [best_eq hw, best_eq (w := w.map (2 * ·)) (by simpa using hw), map_sum2]
    have : partsF (w.map (2 * ·)) = (partsF w).map (2 * ·) := by
      unfold partsF
      rw [List.length_map, List.map_map]
      refine List.map_congr_left fun i hi => ?_
      have hi := List.mem_range.mp hi
      show best ((w.map (2 * ·)).take i) + best ((w.map (2 * ·)).drop (i + 1)) = 2 * (best (w.take i) + best (w.drop (i + 1)))
      rw [← List.map_take, ← List.map_drop, ih _ (by rw [List.length_take]; omega), ih _ (by rw [List.length_drop]; omega)]
      omega
    rw [this, mn_map2 (parts_ne hw)]
    omega
theorem parts_two (w : List Int) : partsF (w.map (2 * ·)) = (partsF w).map (2 * ·) := by
  unfold partsF
  rw [List.length_map, List.map_map]
  refine List.map_congr_left fun i hi => ?_
  show best ((w.map (2 * ·)).take i) + best ((w.map (2 * ·)).drop (i + 1)) = 2 * (best (w.take i) + best (w.drop (i + 1)))
  rw [← List.map_take, ← List.map_drop, best_two, best_two]
  omega
theorem firsts_two {w : List Int} (hw : w ≠ []) : firstsF (w.map (2 * ·)) = firstsF w := by
  unfold firstsF
  rw [parts_two, mn_map2 (parts_ne hw), List.length_map]
  congr 1
  refine List.filter_congr fun i hi => ?_
  rw [← List.map_take, ← List.map_drop, best_two, best_two, decide_eq_decide]
  omega
theorem firsts_iff {w : List Int} (hw : w ≠ []) {i : Nat} (hi : i < w.length) : (i : Int) ∈ firstsF w ↔ best (w.take i) + best (w.drop (i + 1)) + w.sum = best w := by
  unfold firstsF
  rw [List.mem_map]
  constructor
  · rintro ⟨j, hj, e⟩
    have : j = i := by omega
    subst this
    rw [List.mem_filter, decide_eq_true_eq] at hj
    rw [best_eq hw, hj.2]
    omega
  · intro h
    refine ⟨i, List.mem_filter.mpr ⟨List.mem_range.mpr hi, decide_eq_true ?_⟩, rfl⟩
    rw [best_eq hw] at h
    omega
theorem firsts_ne {w : List Int} (hw : w ≠ []) : firstsF w ≠ [] := by
  obtain ⟨i, hi, e⟩ := best_at hw
  have := (firsts_iff hw hi).mpr (by omega)
  exact fun z => by rw [z] at this; cases this
theorem firsts_asc (w : List Int) : (firstsF w).Pairwise (· < ·) := by
  unfold firstsF
  rw [List.pairwise_map]
  exact (List.pairwise_lt_range.filter _).imp fun h => by omega
theorem firsts_len (w : List Int) : (firstsF w).length ≤ w.length := by
  unfold firstsF
  rw [List.length_map]
  exact Nat.le_trans (List.length_filter_le ..) (by rw [List.length_range]; exact Nat.le_refl _)

-- needs: source
def wayD (m e g a : String) : D := .tup [.str (Str.ofString m), .str (Str.ofString e), .str (Str.ofString g), .str (Str.ofString a)]
structure WayOk (m e g a : String) : Prop where
  m : m = "low" ∨ m = "high"
  e : e = "left" ∨ e = "right" ∨ e = "stop"
  g : g = "left" ∨ g = "right"
  a : a = "place" ∨ a = "exact" ∨ a = "below" ∨ a = "above"
def IsWay (d : D) : Prop := ∃ m e g a : String, WayOk m e g a ∧ d = wayD m e g a
theorem WayOk.is {m e g a : String} (h : WayOk m e g a) : IsWay (wayD m e g a) := ⟨m, e, g, a, h, rfl⟩
theorem tw (m e g a : String) : D.tup [.str (Str.ofString m), .str (Str.ofString e), .str (Str.ofString g), .str (Str.ofString a)] = wayD m e g a := rfl
theorem law_way_ok (n : Nat) {l : Nat} {st : Sto} (hs : Src st l) : Ok (FF md.Δ md.Γ (n + 3) i__law_way [.ref l] st) fun r st' => (∃ m e g a, WayOk m e g a ∧ r = (wayD m e g a, false)) ∧ Src st' l ∧ st'.length = st.length := by
  refine FF_Ok at__law_way rfl ?_
  simp -implicitDefEqProofs [d17, B17, Ev.start, LIM]
  refine (law_choice_ok n hs (by simp) (by simp)).mono fun r st1 ⟨⟨d1, h1, e1⟩, hs1, hl1⟩ => ?_
  subst e1
  simp -implicitDefEqProofs [slOf]
  refine (law_choice_ok n hs1 (by simp) (by simp)).mono fun r st2 ⟨⟨d2, h2, e2⟩, hs2, hl2⟩ => ?_
  subst e2
  simp -implicitDefEqProofs [putS]
  refine (law_choice_ok n hs2 (by simp) (by simp)).mono fun r st3 ⟨⟨d3, h3, e3⟩, hs3, hl3⟩ => ?_
  subst e3
  simp -implicitDefEqProofs [x_else, frX, LIM]
  refine (law_choice_ok n hs3 (by simp) (by simp)).mono fun r st4 ⟨⟨d4, h4, e4⟩, hs4, hl4⟩ => ?_
  subst e4
  simp at h1 h2 h3 h4
  have g1 : ∃ m : String, (m = "low" ∨ m = "high") ∧ d1 = .str (Str.ofString m) := by
    rcases h1 with rfl | rfl
    · exact ⟨"low", by simp, rfl⟩
    · exact ⟨"high", by simp, rfl⟩
  have g2 : ∃ m : String, (m = "left" ∨ m = "right" ∨ m = "stop") ∧ d2 = .str (Str.ofString m) := by
    rcases h2 with rfl | rfl | rfl
    · exact ⟨"left", by simp, rfl⟩
    · exact ⟨"right", by simp, rfl⟩
    · exact ⟨"stop", by simp, rfl⟩
  have g3 : ∃ m : String, (m = "place" ∨ m = "exact" ∨ m = "below" ∨ m = "above") ∧ d3 = .str (Str.ofString m) := by
    rcases h3 with rfl | rfl | rfl | rfl
    · exact ⟨"place", by simp, rfl⟩
    · exact ⟨"exact", by simp, rfl⟩
    · exact ⟨"below", by simp, rfl⟩
    · exact ⟨"above", by simp, rfl⟩
  have g4 : ∃ m : String, (m = "left" ∨ m = "right") ∧ d4 = .str (Str.ofString m) := by
    rcases h4 with rfl | rfl
    · exact ⟨"left", by simp, rfl⟩
    · exact ⟨"right", by simp, rfl⟩
  obtain ⟨m, g1, rfl⟩ := g1
  obtain ⟨e, g2, rfl⟩ := g2
  obtain ⟨a, g3, rfl⟩ := g3
  obtain ⟨g, g4, rfl⟩ := g4
  simp
  exact ⟨⟨m, e, g, a, ⟨g1, g2, g4, g3⟩, rfl⟩, hs4, by omega⟩

-- needs: way tabs
def midF (m : String) (lo hi : Int) : Int := if m = "low" then (lo + hi - 1) / 2 else (lo + hi) / 2
@[simp] theorem at0 (m e g a : String) : atD (wayD m e g a) (.int 0) = some (.str (Str.ofString m)) := rfl
@[simp] theorem at1 (m e g a : String) : atD (wayD m e g a) (.int 1) = some (.str (Str.ofString e)) := rfl
@[simp] theorem at2 (m e g a : String) : atD (wayD m e g a) (.int 2) = some (.str (Str.ofString g)) := rfl
@[simp] theorem at3 (m e g a : String) : atD (wayD m e g a) (.int 3) = some (.str (Str.ofString a)) := rfl
theorem middle_of_ok (n : Nat) (m e g a : String) (lo hi : Int) (st : Sto) : FF md.Δ md.Γ (n + 1) i_middle_of [wayD m e g a, .int lo, .int hi] st = .ok (.int (midF m lo hi), false) st := by
  have b2 : big 2 = true := big_of (by decide)
  refine eq_of_Ok (FF_Ok at_middle_of rfl ?_)
  unfold midF
  by_cases h1 : m = "low" <;> simp -implicitDefEqProofs [d3, B3, Ev.start, x_else, cmpD, asB, binD, h1, b2, frX]
theorem midF_rng (m : String) {lo hi : Int} (h : lo < hi) : lo ≤ midF m lo hi ∧ midF m lo hi < hi := by
  unfold midF
  split <;> omega


-- needs: mid
/-! ### the path to a place -/
def pathF (m : String) (p : Int) : Nat → Int → Int → List Int → List Int × Int × Int
  | 0, lo, hi, f => (f, lo, hi)
  | n + 1, lo, hi, f => if midF m lo hi = p then (f ++ [midF m lo hi], lo, hi) else if midF m lo hi < p then pathF m p n (midF m lo hi + 1) hi (f ++ [midF m lo hi]) else pathF m p n lo (midF m lo hi) (f ++ [midF m lo hi])
/-- sizes up to 10 ** 15: at most 50 reads -/
def pathR (m : String) (size p : Int) : List Int × Int × Int := pathF m p 64 0 size []
def pathD (r : List Int × Int × Int) : D := .tup [tabD r.1, .int r.2.1, .int r.2.2]
theorem half_lt {m : String} {lo hi : Int} {k : Nat} (hlt : lo < hi) (h : hi - lo < 2 ^ (k + 1)) : midF m lo hi - lo < 2 ^ k ∧ hi - (midF m lo hi + 1) < 2 ^ k := by
  rw [Int.pow_succ] at h
  unfold midF
  split <;> omega
/-- more fuel changes nothing -/
theorem pathF_fuel {m : String} {p : Int} : ∀ (k n n' : Nat) (lo hi : Int) (f : List Int), lo ≤ p → p < hi → hi - lo < 2 ^ k → k ≤ n → k ≤ n' → pathF m p n lo hi f = pathF m p n' lo hi f
  | 0, n, n', lo, hi, f, h1, h2, h3, _, _ => by simp at h3; omega
  | k + 1, 0, n', _, _, _, _, _, _, h, _ => by omega
  | k + 1, n + 1, 0, _, _, _, _, _, _, _, h => by omega
  | k + 1, n + 1, n' + 1, lo, hi, f, h1, h2, h3, h4, h5 => by
    obtain ⟨q1, q2⟩ := half_lt (m := m) (by omega) h3
    unfold pathF
    split
    · rfl
    · split
      · exact pathF_fuel k n n' _ _ _ (by omega) h2 q2 (by omega) (by omega)
      · exact pathF_fuel k n n' _ _ _ h1 (by omega) q1 (by omega) (by omega)
theorem pathF_len {m : String} {p : Int} : ∀ (n : Nat) (lo hi : Int) (f : List Int), (pathF m p n lo hi f).1.length ≤ f.length + n
  | 0, _, _, f => Nat.le_refl _
  | n + 1, lo, hi, f => by
    unfold pathF
    split
    · simp
    · split
      · have := pathF_len (m := m) (p := p) n (midF m lo hi + 1) hi (f ++ [midF m lo hi])
        simp at this
        omega
      · have := pathF_len (m := m) (p := p) n lo (midF m lo hi) (f ++ [midF m lo hi])
        simp at this
        omega
theorem path_and_ends_ok (n : Nat) (m e g a : String) {size p : Int} (h0 : 0 ≤ p) (h1 : p < size) (h2 : size < 2 ^ 60) (st : Sto) :
    FF md.Δ md.Γ (n + 2) i_path_and_ends [wayD m e g a, .int size, .int p] st = .ok (pathD (pathR m size p), false) st := by
  refine eq_of_Ok ?_
  refine go_path_and_ends ?_
  (repeat (first | with_reducible refine w_assoc ?_ | with_reducible refine w_skip ?_ | with_reducible refine w_pass ?_ | with_reducible refine w_end ?_ | with_reducible refine w_brk ?_ | with_reducible refine w_cnt ?_ | (with_reducible refine w_asg ?_; refine Ok_hide ?_; intro Q hQ; simp -implicitDefEqProofs [Ev.ite_hid Q, x_else, getputw, LIM, -List.map_map, -Bool.if_false_right, -Bool.if_false_left, -Bool.if_true_left, -Bool.if_true_right]; refine unhide hQ ?_; clear hQ; clear Q) | (with_reducible refine w_ret ?_; refine Ok_hide ?_; intro Q hQ; simp -implicitDefEqProofs [Ev.ite_hid Q, x_else, getputw, LIM, -List.map_map, -Bool.if_false_right, -Bool.if_false_left, -Bool.if_true_left, -Bool.if_true_right]; refine unhide hQ ?_; clear hQ; clear Q) | (with_reducible refine w_app ?_; refine Ok_hide ?_; intro Q hQ; simp -implicitDefEqProofs [Ev.ite_hid Q, x_else, getputw, LIM, -List.map_map, -Bool.if_false_right, -Bool.if_false_left, -Bool.if_true_left, -Bool.if_true_right]; refine unhide hQ ?_; clear hQ; clear Q) | (with_reducible refine w_pasg ?_; refine Ok_hide ?_; intro Q hQ; simp -implicitDefEqProofs [Ev.ite_hid Q, x_else, getputw, LIM, -List.map_map, -Bool.if_false_right, -Bool.if_false_left, -Bool.if_true_left, -Bool.if_true_right]; refine unhide hQ ?_; clear hQ; clear Q) | (with_reducible refine w_tasg ?_; refine Ok_hide ?_; intro Q hQ; simp -implicitDefEqProofs [Ev.ite_hid Q, x_else, getputw, LIM, -List.map_map, -Bool.if_false_right, -Bool.if_false_left, -Bool.if_true_left, -Bool.if_true_right]; refine unhide hQ ?_; clear hQ; clear Q) | (with_reducible refine w_asgo ?_; refine Ok_hide ?_; intro Q hQ; simp -implicitDefEqProofs [Ev.ite_hid Q, x_else, getputw, LIM, -List.map_map, -Bool.if_false_right, -Bool.if_false_left, -Bool.if_true_left, -Bool.if_true_right]; refine unhide hQ ?_; clear hQ; clear Q) | (with_reducible refine w_fz ?_; refine Ok_hide ?_; intro Q hQ; simp -implicitDefEqProofs [Ev.ite_hid Q, x_else, getputw, LIM, -List.map_map, -Bool.if_false_right, -Bool.if_false_left, -Bool.if_true_left, -Bool.if_true_right]; refine unhide hQ ?_; clear hQ; clear Q) | (with_reducible refine w_setix ?_; refine Ok_hide ?_; intro Q hQ; simp -implicitDefEqProofs [Ev.ite_hid Q, x_else, getputw, LIM, -List.map_map, -Bool.if_false_right, -Bool.if_false_left, -Bool.if_true_left, -Bool.if_true_right]; refine unhide hQ ?_; clear hQ; clear Q) | (with_reducible refine w_exp ?_; refine Ok_hide ?_; intro Q hQ; simp -implicitDefEqProofs [Ev.ite_hid Q, x_else, getputw, LIM, -List.map_map, -Bool.if_false_right, -Bool.if_false_left, -Bool.if_true_left, -Bool.if_true_right]; refine unhide hQ ?_; clear hQ; clear Q) | (with_reducible refine w_for ?_; refine Ok_hide ?_; intro Q hQ; simp -implicitDefEqProofs [Ev.ite_hid Q, x_else, getputw, LIM, -List.map_map, -Bool.if_false_right, -Bool.if_false_left, -Bool.if_true_left, -Bool.if_true_right]; refine unhide hQ ?_; clear hQ; clear Q) | (with_reducible refine w_ite ?_; refine Ok_hide ?_; intro Q hQ; simp -implicitDefEqProofs [Ev.ite_hid Q, x_else, getputw, LIM, -List.map_map, -Bool.if_false_right, -Bool.if_false_left, -Bool.if_true_left, -Bool.if_true_right]; refine unhide hQ ?_; clear hQ; clear Q; first | refine c2_t ?_ | refine c2_f ?_) | (with_reducible refine w_shr (by simp [getputw]; rfl) ?_)))
  refine w_whl (fun k ρ st' => st' = st ∧ get ρ 0 = .v (wayD m e g a) ∧ get ρ 2 = .v (.int p) ∧ ∃ lo hi f, get ρ 3 = .v (.int lo) ∧ get ρ 4 = .v (.int hi) ∧ get ρ 5 = .v (.tup (f.map .int)) ∧ lo ≤ p ∧ p < hi ∧ hi - lo < 2 ^ k ∧ k ≤ 60 ∧ f.length + k ≤ 60 ∧ pathF m p (k + 4) lo hi f = pathR m size p) 60
    ⟨rfl, by simp -implicitDefEqProofs [getputw], by simp -implicitDefEqProofs [getputw], 0, size, [], by simp -implicitDefEqProofs [getputw], by simp -implicitDefEqProofs [getputw], by simp -implicitDefEqProofs [getputw], h0, h1, by omega, Nat.le_refl _, by simp, rfl⟩ (by show 60 < 1000000; decide) ?_
  rintro k ρ st' ⟨rfl, g0, g2, lo, hi, f, g3, g4, g5, h3, h4, h5, h6, h7, h8⟩
  (refine Ok_hide ?_; intro Q hQ; simp -implicitDefEqProofs [Ev.ite_hid Q, x_else, getputw, LIM, -List.map_map, -Bool.if_false_right, -Bool.if_false_left, -Bool.if_true_left, -Bool.if_true_right]; refine unhide hQ ?_; clear hQ; clear Q)
  refine c2_t ?_
  cases k with
  | zero => simp at h5; omega
  | succ k =>
    obtain ⟨q1, q2⟩ := half_lt (m := m) (by omega) h5
    have hf : f.length + 1 ≤ 16777216 := by omega
    have hpf : pathF m p (k + 1 + 4) lo hi f = (if midF m lo hi = p then (f ++ [midF m lo hi], lo, hi) else if midF m lo hi < p then pathF m p (k + 4) (midF m lo hi + 1) hi (f ++ [midF m lo hi]) else pathF m p (k + 4) lo (midF m lo hi) (f ++ [midF m lo hi])) := rfl
    rw [hpf] at h8
    have hadd : binD .add (.tup (f.map .int)) (.tup [.int (midF m lo hi)]) = some (.tup ((f ++ [midF m lo hi]).map .int)) := by
      show (if (f.map D.int).length + 1 ≤ LIM then some (D.tup (f.map D.int ++ [.int (midF m lo hi)])) else none) = _
      rw [if_pos (by rw [List.length_map]; exact hf), List.map_append]
      rfl
    have hmo := fun n st => middle_of_ok n m e g a lo hi st
    generalize midF m lo hi = mid at *
    by_cases z1 : mid = p
    · rw [if_pos z1] at h8
      subst z1
      (repeat (first | with_reducible refine w_assoc ?_ | with_reducible refine w_skip ?_ | with_reducible refine w_pass ?_ | with_reducible refine w_end ?_ | with_reducible refine w_brk ?_ | with_reducible refine w_cnt ?_ | (with_reducible refine w_asg ?_; refine Ok_hide ?_; intro Q hQ; simp -implicitDefEqProofs [Ev.ite_hid Q, x_else, getputw, LIM, -List.map_map, -Bool.if_false_right, -Bool.if_false_left, -Bool.if_true_left, -Bool.if_true_right, g0, g2, g3, g4, g5, hmo, hadd]; refine unhide hQ ?_; clear hQ; clear Q) | (with_reducible refine w_ret ?_; refine Ok_hide ?_; intro Q hQ; simp -implicitDefEqProofs [Ev.ite_hid Q, x_else, getputw, LIM, -List.map_map, -Bool.if_false_right, -Bool.if_false_left, -Bool.if_true_left, -Bool.if_true_right, g0, g2, g3, g4, g5, hmo, hadd]; refine unhide hQ ?_; clear hQ; clear Q) | (with_reducible refine w_app ?_; refine Ok_hide ?_; intro Q hQ; simp -implicitDefEqProofs [Ev.ite_hid Q, x_else, getputw, LIM, -List.map_map, -Bool.if_false_right, -Bool.if_false_left, -Bool.if_true_left, -Bool.if_true_right, g0, g2, g3, g4, g5, hmo, hadd]; refine unhide hQ ?_; clear hQ; clear Q) | (with_reducible refine w_pasg ?_; refine Ok_hide ?_; intro Q hQ; simp -implicitDefEqProofs [Ev.ite_hid Q, x_else, getputw, LIM, -List.map_map, -Bool.if_false_right, -Bool.if_false_left, -Bool.if_true_left, -Bool.if_true_right, g0, g2, g3, g4, g5, hmo, hadd]; refine unhide hQ ?_; clear hQ; clear Q) | (with_reducible refine w_tasg ?_; refine Ok_hide ?_; intro Q hQ; simp -implicitDefEqProofs [Ev.ite_hid Q, x_else, getputw, LIM, -List.map_map, -Bool.if_false_right, -Bool.if_false_left, -Bool.if_true_left, -Bool.if_true_right, g0, g2, g3, g4, g5, hmo, hadd]; refine unhide hQ ?_; clear hQ; clear Q) | (with_reducible refine w_asgo ?_; refine Ok_hide ?_; intro Q hQ; simp -implicitDefEqProofs [Ev.ite_hid Q, x_else, getputw, LIM, -List.map_map, -Bool.if_false_right, -Bool.if_false_left, -Bool.if_true_left, -Bool.if_true_right, g0, g2, g3, g4, g5, hmo, hadd]; refine unhide hQ ?_; clear hQ; clear Q) | (with_reducible refine w_fz ?_; refine Ok_hide ?_; intro Q hQ; simp -implicitDefEqProofs [Ev.ite_hid Q, x_else, getputw, LIM, -List.map_map, -Bool.if_false_right, -Bool.if_false_left, -Bool.if_true_left, -Bool.if_true_right, g0, g2, g3, g4, g5, hmo, hadd]; refine unhide hQ ?_; clear hQ; clear Q) | (with_reducible refine w_setix ?_; refine Ok_hide ?_; intro Q hQ; simp -implicitDefEqProofs [Ev.ite_hid Q, x_else, getputw, LIM, -List.map_map, -Bool.if_false_right, -Bool.if_false_left, -Bool.if_true_left, -Bool.if_true_right, g0, g2, g3, g4, g5, hmo, hadd]; refine unhide hQ ?_; clear hQ; clear Q) | (with_reducible refine w_exp ?_; refine Ok_hide ?_; intro Q hQ; simp -implicitDefEqProofs [Ev.ite_hid Q, x_else, getputw, LIM, -List.map_map, -Bool.if_false_right, -Bool.if_false_left, -Bool.if_true_left, -Bool.if_true_right, g0, g2, g3, g4, g5, hmo, hadd]; refine unhide hQ ?_; clear hQ; clear Q) | (with_reducible refine w_for ?_; refine Ok_hide ?_; intro Q hQ; simp -implicitDefEqProofs [Ev.ite_hid Q, x_else, getputw, LIM, -List.map_map, -Bool.if_false_right, -Bool.if_false_left, -Bool.if_true_left, -Bool.if_true_right, g0, g2, g3, g4, g5, hmo, hadd]; refine unhide hQ ?_; clear hQ; clear Q) | (with_reducible refine w_ite ?_; refine Ok_hide ?_; intro Q hQ; simp -implicitDefEqProofs [Ev.ite_hid Q, x_else, getputw, LIM, -List.map_map, -Bool.if_false_right, -Bool.if_false_left, -Bool.if_true_left, -Bool.if_true_right, g0, g2, g3, g4, g5, hmo, hadd]; refine unhide hQ ?_; clear hQ; clear Q; first | refine c2_t ?_ | refine c2_f ?_) | (with_reducible refine w_shr (by simp [getputw]; rfl) ?_)))
      rw [← h8]
      simp -implicitDefEqProofs [pathD, tabD]
    · rw [if_neg z1] at h8
      by_cases z2 : mid < p
      · rw [if_pos z2] at h8
        (repeat (first | with_reducible refine w_assoc ?_ | with_reducible refine w_skip ?_ | with_reducible refine w_pass ?_ | with_reducible refine w_end ?_ | with_reducible refine w_brk ?_ | with_reducible refine w_cnt ?_ | (with_reducible refine w_asg ?_; refine Ok_hide ?_; intro Q hQ; simp -implicitDefEqProofs [Ev.ite_hid Q, x_else, getputw, LIM, -List.map_map, -Bool.if_false_right, -Bool.if_false_left, -Bool.if_true_left, -Bool.if_true_right, g0, g2, g3, g4, g5, hmo, hadd, z1, z2]; refine unhide hQ ?_; clear hQ; clear Q) | (with_reducible refine w_ret ?_; refine Ok_hide ?_; intro Q hQ; simp -implicitDefEqProofs [Ev.ite_hid Q, x_else, getputw, LIM, -List.map_map, -Bool.if_false_right, -Bool.if_false_left, -Bool.if_true_left, -Bool.if_true_right, g0, g2, g3, g4, g5, hmo, hadd, z1, z2]; refine unhide hQ ?_; clear hQ; clear Q) | (with_reducible refine w_app ?_; refine Ok_hide ?_; intro Q hQ; simp -implicitDefEqProofs [Ev.ite_hid Q, x_else, getputw, LIM, -List.map_map, -Bool.if_false_right, -Bool.if_false_left, -Bool.if_true_left, -Bool.if_true_right, g0, g2, g3, g4, g5, hmo, hadd, z1, z2]; refine unhide hQ ?_; clear hQ; clear Q) | (with_reducible refine w_pasg ?_; refine Ok_hide ?_; intro Q hQ; simp -implicitDefEqProofs [Ev.ite_hid Q, x_else, getputw, LIM, -List.map_map, -Bool.if_false_right, -Bool.if_false_left, -Bool.if_true_left, -Bool.if_true_right, g0, g2, g3, g4, g5, hmo, hadd, z1, z2]; refine unhide hQ ?_; clear hQ; clear Q) | (with_reducible refine w_tasg ?_; refine Ok_hide ?_; intro Q hQ; simp -implicitDefEqProofs [Ev.ite_hid Q, x_else, getputw, LIM, -List.map_map, -Bool.if_false_right, -Bool.if_false_left, -Bool.if_true_left, -Bool.if_true_right, g0, g2, g3, g4, g5, hmo, hadd, z1, z2]; refine unhide hQ ?_; clear hQ; clear Q) | (with_reducible refine w_asgo ?_; refine Ok_hide ?_; intro Q hQ; simp -implicitDefEqProofs [Ev.ite_hid Q, x_else, getputw, LIM, -List.map_map, -Bool.if_false_right, -Bool.if_false_left, -Bool.if_true_left, -Bool.if_true_right, g0, g2, g3, g4, g5, hmo, hadd, z1, z2]; refine unhide hQ ?_; clear hQ; clear Q) | (with_reducible refine w_fz ?_; refine Ok_hide ?_; intro Q hQ; simp -implicitDefEqProofs [Ev.ite_hid Q, x_else, getputw, LIM, -List.map_map, -Bool.if_false_right, -Bool.if_false_left, -Bool.if_true_left, -Bool.if_true_right, g0, g2, g3, g4, g5, hmo, hadd, z1, z2]; refine unhide hQ ?_; clear hQ; clear Q) | (with_reducible refine w_setix ?_; refine Ok_hide ?_; intro Q hQ; simp -implicitDefEqProofs [Ev.ite_hid Q, x_else, getputw, LIM, -List.map_map, -Bool.if_false_right, -Bool.if_false_left, -Bool.if_true_left, -Bool.if_true_right, g0, g2, g3, g4, g5, hmo, hadd, z1, z2]; refine unhide hQ ?_; clear hQ; clear Q) | (with_reducible refine w_exp ?_; refine Ok_hide ?_; intro Q hQ; simp -implicitDefEqProofs [Ev.ite_hid Q, x_else, getputw, LIM, -List.map_map, -Bool.if_false_right, -Bool.if_false_left, -Bool.if_true_left, -Bool.if_true_right, g0, g2, g3, g4, g5, hmo, hadd, z1, z2]; refine unhide hQ ?_; clear hQ; clear Q) | (with_reducible refine w_for ?_; refine Ok_hide ?_; intro Q hQ; simp -implicitDefEqProofs [Ev.ite_hid Q, x_else, getputw, LIM, -List.map_map, -Bool.if_false_right, -Bool.if_false_left, -Bool.if_true_left, -Bool.if_true_right, g0, g2, g3, g4, g5, hmo, hadd, z1, z2]; refine unhide hQ ?_; clear hQ; clear Q) | (with_reducible refine w_ite ?_; refine Ok_hide ?_; intro Q hQ; simp -implicitDefEqProofs [Ev.ite_hid Q, x_else, getputw, LIM, -List.map_map, -Bool.if_false_right, -Bool.if_false_left, -Bool.if_true_left, -Bool.if_true_right, g0, g2, g3, g4, g5, hmo, hadd, z1, z2]; refine unhide hQ ?_; clear hQ; clear Q; first | refine c2_t ?_ | refine c2_f ?_) | (with_reducible refine w_shr (by simp [getputw]; rfl) ?_)))
        exact ⟨k, by omega, rfl, by simp -implicitDefEqProofs [getputw, g0], by simp -implicitDefEqProofs [getputw, g2], mid + 1, hi, f ++ [mid], by simp -implicitDefEqProofs [getputw], by simp -implicitDefEqProofs [getputw, g4], by simp -implicitDefEqProofs [getputw], by omega, h4, q2, by omega, by simp; omega, h8⟩
      · rw [if_neg z2] at h8
        (repeat (first | with_reducible refine w_assoc ?_ | with_reducible refine w_skip ?_ | with_reducible refine w_pass ?_ | with_reducible refine w_end ?_ | with_reducible refine w_brk ?_ | with_reducible refine w_cnt ?_ | (with_reducible refine w_asg ?_; refine Ok_hide ?_; intro Q hQ; simp -implicitDefEqProofs [Ev.ite_hid Q, x_else, getputw, LIM, -List.map_map, -Bool.if_false_right, -Bool.if_false_left, -Bool.if_true_left, -Bool.if_true_right, g0, g2, g3, g4, g5, hmo, hadd, z1, z2]; refine unhide hQ ?_; clear hQ; clear Q) | (with_reducible refine w_ret ?_; refine Ok_hide ?_; intro Q hQ; simp -implicitDefEqProofs [Ev.ite_hid Q, x_else, getputw, LIM, -List.map_map, -Bool.if_false_right, -Bool.if_false_left, -Bool.if_true_left, -Bool.if_true_right, g0, g2, g3, g4, g5, hmo, hadd, z1, z2]; refine unhide hQ ?_; clear hQ; clear Q) | (with_reducible refine w_app ?_; refine Ok_hide ?_; intro Q hQ; simp -implicitDefEqProofs [Ev.ite_hid Q, x_else, getputw, LIM, -List.map_map, -Bool.if_false_right, -Bool.if_false_left, -Bool.if_true_left, -Bool.if_true_right, g0, g2, g3, g4, g5, hmo, hadd, z1, z2]; refine unhide hQ ?_; clear hQ; clear Q) | (with_reducible refine w_pasg ?_; refine Ok_hide ?_; intro Q hQ; simp -implicitDefEqProofs [Ev.ite_hid Q, x_else, getputw, LIM, -List.map_map, -Bool.if_false_right, -Bool.if_false_left, -Bool.if_true_left, -Bool.if_true_right, g0, g2, g3, g4, g5, hmo, hadd, z1, z2]; refine unhide hQ ?_; clear hQ; clear Q) | (with_reducible refine w_tasg ?_; refine Ok_hide ?_; intro Q hQ; simp -implicitDefEqProofs [Ev.ite_hid Q, x_else, getputw, LIM, -List.map_map, -Bool.if_false_right, -Bool.if_false_left, -Bool.if_true_left, -Bool.if_true_right, g0, g2, g3, g4, g5, hmo, hadd, z1, z2]; refine unhide hQ ?_; clear hQ; clear Q) | (with_reducible refine w_asgo ?_; refine Ok_hide ?_; intro Q hQ; simp -implicitDefEqProofs [Ev.ite_hid Q, x_else, getputw, LIM, -List.map_map, -Bool.if_false_right, -Bool.if_false_left, -Bool.if_true_left, -Bool.if_true_right, g0, g2, g3, g4, g5, hmo, hadd, z1, z2]; refine unhide hQ ?_; clear hQ; clear Q) | (with_reducible refine w_fz ?_; refine Ok_hide ?_; intro Q hQ; simp -implicitDefEqProofs [Ev.ite_hid Q, x_else, getputw, LIM, -List.map_map, -Bool.if_false_right, -Bool.if_false_left, -Bool.if_true_left, -Bool.if_true_right, g0, g2, g3, g4, g5, hmo, hadd, z1, z2]; refine unhide hQ ?_; clear hQ; clear Q) | (with_reducible refine w_setix ?_; refine Ok_hide ?_; intro Q hQ; simp -implicitDefEqProofs [Ev.ite_hid Q, x_else, getputw, LIM, -List.map_map, -Bool.if_false_right, -Bool.if_false_left, -Bool.if_true_left, -Bool.if_true_right, g0, g2, g3, g4, g5, hmo, hadd, z1, z2]; refine unhide hQ ?_; clear hQ; clear Q) | (with_reducible refine w_exp ?_; refine Ok_hide ?_; intro Q hQ; simp -implicitDefEqProofs [Ev.ite_hid Q, x_else, getputw, LIM, -List.map_map, -Bool.if_false_right, -Bool.if_false_left, -Bool.if_true_left, -Bool.if_true_right, g0, g2, g3, g4, g5, hmo, hadd, z1, z2]; refine unhide hQ ?_; clear hQ; clear Q) | (with_reducible refine w_for ?_; refine Ok_hide ?_; intro Q hQ; simp -implicitDefEqProofs [Ev.ite_hid Q, x_else, getputw, LIM, -List.map_map, -Bool.if_false_right, -Bool.if_false_left, -Bool.if_true_left, -Bool.if_true_right, g0, g2, g3, g4, g5, hmo, hadd, z1, z2]; refine unhide hQ ?_; clear hQ; clear Q) | (with_reducible refine w_ite ?_; refine Ok_hide ?_; intro Q hQ; simp -implicitDefEqProofs [Ev.ite_hid Q, x_else, getputw, LIM, -List.map_map, -Bool.if_false_right, -Bool.if_false_left, -Bool.if_true_left, -Bool.if_true_right, g0, g2, g3, g4, g5, hmo, hadd, z1, z2]; refine unhide hQ ?_; clear hQ; clear Q; first | refine c2_t ?_ | refine c2_f ?_) | (with_reducible refine w_shr (by simp [getputw]; rfl) ?_)))
        exact ⟨k, by omega, rfl, by simp -implicitDefEqProofs [getputw, g0], by simp -implicitDefEqProofs [getputw, g2], lo, mid, f ++ [mid], by simp -implicitDefEqProofs [getputw, g3], by simp -implicitDefEqProofs [getputw], by simp -implicitDefEqProofs [getputw], h3, by omega, q1, by omega, by simp; omega, h8⟩
theorem need_size_ok (n : Nat) {size most : Int} (h0 : 0 ≤ size) (h1 : size ≤ most) (st : Sto) : FF md.Δ md.Γ (n + 2) i_need_size [.int size, .int most] st = .ok (.non, false) st := by
  refine eq_of_Ok ?_
  refine go_need_size ?_
  (repeat (first | with_reducible refine w_assoc ?_ | with_reducible refine w_skip ?_ | with_reducible refine w_pass ?_ | with_reducible refine w_end ?_ | with_reducible refine w_brk ?_ | with_reducible refine w_cnt ?_ | (with_reducible refine w_asg ?_; refine Ok_hide ?_; intro Q hQ; simp -implicitDefEqProofs [Ev.ite_hid Q, x_else, getputw, LIM, -List.map_map, -Bool.if_false_right, -Bool.if_false_left, -Bool.if_true_left, -Bool.if_true_right, is_between_int, h0, h1]; refine unhide hQ ?_; clear hQ; clear Q) | (with_reducible refine w_ret ?_; refine Ok_hide ?_; intro Q hQ; simp -implicitDefEqProofs [Ev.ite_hid Q, x_else, getputw, LIM, -List.map_map, -Bool.if_false_right, -Bool.if_false_left, -Bool.if_true_left, -Bool.if_true_right, is_between_int, h0, h1]; refine unhide hQ ?_; clear hQ; clear Q) | (with_reducible refine w_app ?_; refine Ok_hide ?_; intro Q hQ; simp -implicitDefEqProofs [Ev.ite_hid Q, x_else, getputw, LIM, -List.map_map, -Bool.if_false_right, -Bool.if_false_left, -Bool.if_true_left, -Bool.if_true_right, is_between_int, h0, h1]; refine unhide hQ ?_; clear hQ; clear Q) | (with_reducible refine w_pasg ?_; refine Ok_hide ?_; intro Q hQ; simp -implicitDefEqProofs [Ev.ite_hid Q, x_else, getputw, LIM, -List.map_map, -Bool.if_false_right, -Bool.if_false_left, -Bool.if_true_left, -Bool.if_true_right, is_between_int, h0, h1]; refine unhide hQ ?_; clear hQ; clear Q) | (with_reducible refine w_tasg ?_; refine Ok_hide ?_; intro Q hQ; simp -implicitDefEqProofs [Ev.ite_hid Q, x_else, getputw, LIM, -List.map_map, -Bool.if_false_right, -Bool.if_false_left, -Bool.if_true_left, -Bool.if_true_right, is_between_int, h0, h1]; refine unhide hQ ?_; clear hQ; clear Q) | (with_reducible refine w_asgo ?_; refine Ok_hide ?_; intro Q hQ; simp -implicitDefEqProofs [Ev.ite_hid Q, x_else, getputw, LIM, -List.map_map, -Bool.if_false_right, -Bool.if_false_left, -Bool.if_true_left, -Bool.if_true_right, is_between_int, h0, h1]; refine unhide hQ ?_; clear hQ; clear Q) | (with_reducible refine w_fz ?_; refine Ok_hide ?_; intro Q hQ; simp -implicitDefEqProofs [Ev.ite_hid Q, x_else, getputw, LIM, -List.map_map, -Bool.if_false_right, -Bool.if_false_left, -Bool.if_true_left, -Bool.if_true_right, is_between_int, h0, h1]; refine unhide hQ ?_; clear hQ; clear Q) | (with_reducible refine w_setix ?_; refine Ok_hide ?_; intro Q hQ; simp -implicitDefEqProofs [Ev.ite_hid Q, x_else, getputw, LIM, -List.map_map, -Bool.if_false_right, -Bool.if_false_left, -Bool.if_true_left, -Bool.if_true_right, is_between_int, h0, h1]; refine unhide hQ ?_; clear hQ; clear Q) | (with_reducible refine w_exp ?_; refine Ok_hide ?_; intro Q hQ; simp -implicitDefEqProofs [Ev.ite_hid Q, x_else, getputw, LIM, -List.map_map, -Bool.if_false_right, -Bool.if_false_left, -Bool.if_true_left, -Bool.if_true_right, is_between_int, h0, h1]; refine unhide hQ ?_; clear hQ; clear Q) | (with_reducible refine w_for ?_; refine Ok_hide ?_; intro Q hQ; simp -implicitDefEqProofs [Ev.ite_hid Q, x_else, getputw, LIM, -List.map_map, -Bool.if_false_right, -Bool.if_false_left, -Bool.if_true_left, -Bool.if_true_right, is_between_int, h0, h1]; refine unhide hQ ?_; clear hQ; clear Q) | (with_reducible refine w_ite ?_; refine Ok_hide ?_; intro Q hQ; simp -implicitDefEqProofs [Ev.ite_hid Q, x_else, getputw, LIM, -List.map_map, -Bool.if_false_right, -Bool.if_false_left, -Bool.if_true_left, -Bool.if_true_right, is_between_int, h0, h1]; refine unhide hQ ?_; clear hQ; clear Q; first | refine c2_t ?_ | refine c2_f ?_) | (with_reducible refine w_shr (by simp [getputw]; rfl) ?_)))
  simp
theorem need_place_ok (n : Nat) {size p : Int} (h0 : 0 ≤ p) (h1 : p < size) (st : Sto) : FF md.Δ md.Γ (n + 2) i_need_place [.int size, .int p] st = .ok (.non, false) st := by
  refine eq_of_Ok ?_
  have h2 : p ≤ size - 1 := by omega
  refine go_need_place ?_
  (repeat (first | with_reducible refine w_assoc ?_ | with_reducible refine w_skip ?_ | with_reducible refine w_pass ?_ | with_reducible refine w_end ?_ | with_reducible refine w_brk ?_ | with_reducible refine w_cnt ?_ | (with_reducible refine w_asg ?_; refine Ok_hide ?_; intro Q hQ; simp -implicitDefEqProofs [Ev.ite_hid Q, x_else, getputw, LIM, -List.map_map, -Bool.if_false_right, -Bool.if_false_left, -Bool.if_true_left, -Bool.if_true_right, is_between_int, h0, h2]; refine unhide hQ ?_; clear hQ; clear Q) | (with_reducible refine w_ret ?_; refine Ok_hide ?_; intro Q hQ; simp -implicitDefEqProofs [Ev.ite_hid Q, x_else, getputw, LIM, -List.map_map, -Bool.if_false_right, -Bool.if_false_left, -Bool.if_true_left, -Bool.if_true_right, is_between_int, h0, h2]; refine unhide hQ ?_; clear hQ; clear Q) | (with_reducible refine w_app ?_; refine Ok_hide ?_; intro Q hQ; simp -implicitDefEqProofs [Ev.ite_hid Q, x_else, getputw, LIM, -List.map_map, -Bool.if_false_right, -Bool.if_false_left, -Bool.if_true_left, -Bool.if_true_right, is_between_int, h0, h2]; refine unhide hQ ?_; clear hQ; clear Q) | (with_reducible refine w_pasg ?_; refine Ok_hide ?_; intro Q hQ; simp -implicitDefEqProofs [Ev.ite_hid Q, x_else, getputw, LIM, -List.map_map, -Bool.if_false_right, -Bool.if_false_left, -Bool.if_true_left, -Bool.if_true_right, is_between_int, h0, h2]; refine unhide hQ ?_; clear hQ; clear Q) | (with_reducible refine w_tasg ?_; refine Ok_hide ?_; intro Q hQ; simp -implicitDefEqProofs [Ev.ite_hid Q, x_else, getputw, LIM, -List.map_map, -Bool.if_false_right, -Bool.if_false_left, -Bool.if_true_left, -Bool.if_true_right, is_between_int, h0, h2]; refine unhide hQ ?_; clear hQ; clear Q) | (with_reducible refine w_asgo ?_; refine Ok_hide ?_; intro Q hQ; simp -implicitDefEqProofs [Ev.ite_hid Q, x_else, getputw, LIM, -List.map_map, -Bool.if_false_right, -Bool.if_false_left, -Bool.if_true_left, -Bool.if_true_right, is_between_int, h0, h2]; refine unhide hQ ?_; clear hQ; clear Q) | (with_reducible refine w_fz ?_; refine Ok_hide ?_; intro Q hQ; simp -implicitDefEqProofs [Ev.ite_hid Q, x_else, getputw, LIM, -List.map_map, -Bool.if_false_right, -Bool.if_false_left, -Bool.if_true_left, -Bool.if_true_right, is_between_int, h0, h2]; refine unhide hQ ?_; clear hQ; clear Q) | (with_reducible refine w_setix ?_; refine Ok_hide ?_; intro Q hQ; simp -implicitDefEqProofs [Ev.ite_hid Q, x_else, getputw, LIM, -List.map_map, -Bool.if_false_right, -Bool.if_false_left, -Bool.if_true_left, -Bool.if_true_right, is_between_int, h0, h2]; refine unhide hQ ?_; clear hQ; clear Q) | (with_reducible refine w_exp ?_; refine Ok_hide ?_; intro Q hQ; simp -implicitDefEqProofs [Ev.ite_hid Q, x_else, getputw, LIM, -List.map_map, -Bool.if_false_right, -Bool.if_false_left, -Bool.if_true_left, -Bool.if_true_right, is_between_int, h0, h2]; refine unhide hQ ?_; clear hQ; clear Q) | (with_reducible refine w_for ?_; refine Ok_hide ?_; intro Q hQ; simp -implicitDefEqProofs [Ev.ite_hid Q, x_else, getputw, LIM, -List.map_map, -Bool.if_false_right, -Bool.if_false_left, -Bool.if_true_left, -Bool.if_true_right, is_between_int, h0, h2]; refine unhide hQ ?_; clear hQ; clear Q) | (with_reducible refine w_ite ?_; refine Ok_hide ?_; intro Q hQ; simp -implicitDefEqProofs [Ev.ite_hid Q, x_else, getputw, LIM, -List.map_map, -Bool.if_false_right, -Bool.if_false_left, -Bool.if_true_left, -Bool.if_true_right, is_between_int, h0, h2]; refine unhide hQ ?_; clear hQ; clear Q; first | refine c2_t ?_ | refine c2_f ?_) | (with_reducible refine w_shr (by simp [getputw]; rfl) ?_)))
  simp

-- needs: way tabs
theorem is_way_ok (n : Nat) {d : D} (h : IsWay d) (st : Sto) : FF md.Δ md.Γ (n + 1) i_is_way [d] st = .ok (.bl true, false) st := by
  obtain ⟨m, e, g, a, ⟨h1, h2, h3, h4⟩, rfl⟩ := h
  refine eq_of_Ok (FF_Ok at_is_way rfl ?_)
  have f1 : inD (.str (Str.ofString m)) (md.Γ g_MIDDLES) = some true := by rcases h1 with rfl | rfl <;> rfl
  have f2 : inD (.str (Str.ofString e)) (md.Γ g_EQUALS) = some true := by rcases h2 with rfl | rfl | rfl <;> rfl
  have f3 : inD (.str (Str.ofString g)) (md.Γ g_GAPS) = some true := by rcases h3 with rfl | rfl <;> rfl
  have f4 : inD (.str (Str.ofString a)) (md.Γ g_ANSWERS) = some true := by rcases h4 with rfl | rfl | rfl | rfl <;> rfl
  unfold wayD
  simp -implicitDefEqProofs [d1, B1, Ev.start, x_else, isD, asB, biD, lenD, Ev.elems, elemsK, lcS, lcL, bindT, LIM, lstD, boolsD, cmpD, atD, ixD, f1, f2, f3, f4, frX]
theorem need_way_ok (n : Nat) {d : D} (h : IsWay d) (st : Sto) : FF md.Δ md.Γ (n + 2) i_need_way [d] st = .ok (.non, false) st := by
  refine eq_of_Ok (FF_Ok at_need_way rfl ?_)
  simp -implicitDefEqProofs [d2, B2, Ev.start, is_way_ok n h, asB]

-- needs: wgt path wayok
theorem Tab.whole {w : List Int} {m : List ((Int × Int) × Int)} (h : Tab w m w.length) : alook ((0 : Int), (w.length : Int)) m = some (best w) := by
  rw [h 0 w.length (by omega) (by omega) (by omega) (by omega), seg_all]
theorem least_reads_ok (n : Nat) {w : List Int} (h : WgtOk w) (st : Sto) : FF md.Δ md.Γ (n + 3) i_least_reads [tabD w] st = .ok (.int (best w), false) st := by
  refine eq_of_Ok ?_
  refine go_least_reads ?_
  (repeat (first | with_reducible refine w_assoc ?_ | with_reducible refine w_skip ?_ | with_reducible refine w_pass ?_ | with_reducible refine w_end ?_ | with_reducible refine w_brk ?_ | with_reducible refine w_cnt ?_ | (with_reducible refine w_asg ?_; refine Ok_hide ?_; intro Q hQ; simp -implicitDefEqProofs [Ev.ite_hid Q, x_else, getputw, LIM, -List.map_map, -Bool.if_false_right, -Bool.if_false_left, -Bool.if_true_left, -Bool.if_true_right, need_weights_ok _ h]; refine unhide hQ ?_; clear hQ; clear Q) | (with_reducible refine w_ret ?_; refine Ok_hide ?_; intro Q hQ; simp -implicitDefEqProofs [Ev.ite_hid Q, x_else, getputw, LIM, -List.map_map, -Bool.if_false_right, -Bool.if_false_left, -Bool.if_true_left, -Bool.if_true_right, need_weights_ok _ h]; refine unhide hQ ?_; clear hQ; clear Q) | (with_reducible refine w_app ?_; refine Ok_hide ?_; intro Q hQ; simp -implicitDefEqProofs [Ev.ite_hid Q, x_else, getputw, LIM, -List.map_map, -Bool.if_false_right, -Bool.if_false_left, -Bool.if_true_left, -Bool.if_true_right, need_weights_ok _ h]; refine unhide hQ ?_; clear hQ; clear Q) | (with_reducible refine w_pasg ?_; refine Ok_hide ?_; intro Q hQ; simp -implicitDefEqProofs [Ev.ite_hid Q, x_else, getputw, LIM, -List.map_map, -Bool.if_false_right, -Bool.if_false_left, -Bool.if_true_left, -Bool.if_true_right, need_weights_ok _ h]; refine unhide hQ ?_; clear hQ; clear Q) | (with_reducible refine w_tasg ?_; refine Ok_hide ?_; intro Q hQ; simp -implicitDefEqProofs [Ev.ite_hid Q, x_else, getputw, LIM, -List.map_map, -Bool.if_false_right, -Bool.if_false_left, -Bool.if_true_left, -Bool.if_true_right, need_weights_ok _ h]; refine unhide hQ ?_; clear hQ; clear Q) | (with_reducible refine w_asgo ?_; refine Ok_hide ?_; intro Q hQ; simp -implicitDefEqProofs [Ev.ite_hid Q, x_else, getputw, LIM, -List.map_map, -Bool.if_false_right, -Bool.if_false_left, -Bool.if_true_left, -Bool.if_true_right, need_weights_ok _ h]; refine unhide hQ ?_; clear hQ; clear Q) | (with_reducible refine w_fz ?_; refine Ok_hide ?_; intro Q hQ; simp -implicitDefEqProofs [Ev.ite_hid Q, x_else, getputw, LIM, -List.map_map, -Bool.if_false_right, -Bool.if_false_left, -Bool.if_true_left, -Bool.if_true_right, need_weights_ok _ h]; refine unhide hQ ?_; clear hQ; clear Q) | (with_reducible refine w_setix ?_; refine Ok_hide ?_; intro Q hQ; simp -implicitDefEqProofs [Ev.ite_hid Q, x_else, getputw, LIM, -List.map_map, -Bool.if_false_right, -Bool.if_false_left, -Bool.if_true_left, -Bool.if_true_right, need_weights_ok _ h]; refine unhide hQ ?_; clear hQ; clear Q) | (with_reducible refine w_exp ?_; refine Ok_hide ?_; intro Q hQ; simp -implicitDefEqProofs [Ev.ite_hid Q, x_else, getputw, LIM, -List.map_map, -Bool.if_false_right, -Bool.if_false_left, -Bool.if_true_left, -Bool.if_true_right, need_weights_ok _ h]; refine unhide hQ ?_; clear hQ; clear Q) | (with_reducible refine w_for ?_; refine Ok_hide ?_; intro Q hQ; simp -implicitDefEqProofs [Ev.ite_hid Q, x_else, getputw, LIM, -List.map_map, -Bool.if_false_right, -Bool.if_false_left, -Bool.if_true_left, -Bool.if_true_right, need_weights_ok _ h]; refine unhide hQ ?_; clear hQ; clear Q) | (with_reducible refine w_ite ?_; refine Ok_hide ?_; intro Q hQ; simp -implicitDefEqProofs [Ev.ite_hid Q, x_else, getputw, LIM, -List.map_map, -Bool.if_false_right, -Bool.if_false_left, -Bool.if_true_left, -Bool.if_true_right, need_weights_ok _ h]; refine unhide hQ ?_; clear hQ; clear Q; first | refine c2_t ?_ | refine c2_f ?_) | (with_reducible refine w_shr (by simp [getputw]; rfl) ?_)))
  ((repeat (first | with_reducible refine w_assoc ?_ | with_reducible refine w_skip ?_ | with_reducible refine w_pass ?_)); with_reducible refine w_ret ?_; refine Ok_hide ?_; intro Q hQ; simp -implicitDefEqProofs [Ev.ite_hid Q, x_else, getputw, LIM, -List.map_map, -Bool.if_false_right, -Bool.if_false_left, -Bool.if_true_left, -Bool.if_true_right])
  refine (best_sums_ok _ h st).mono ?_
  rintro _ st' ⟨rfl, m, rfl, hT⟩
  have hk : D.tup [.int 0, .int (w.length : Int)] = keyP (0, (w.length : Int)) := rfl
  have ha := atD_enc (kd := true) (vf := D.int) en_keyP (by decide) (keyP_ok _) hT.whole
  (simp -implicitDefEqProofs [x_else, getputw, LIM, -List.map_map, -Bool.if_false_right, -Bool.if_false_left, -Bool.if_true_left, -Bool.if_true_right, hk, ha])
  (refine unhide hQ ?_; clear hQ; clear Q)
  simp
def readsF (m : String) (w : List Int) : Int := ((w.zipIdx).map fun x => x.1 * ((pathR m w.length (x.2 : Int)).1.length : Int)).sum
theorem reads_of_ok (n : Nat) {m e g a : String} (wy : WayOk m e g a) {w : List Int} (h : WgtOk w) (st : Sto) : FF md.Δ md.Γ (n + 4) i_reads_of [wayD m e g a, tabD w] st = .ok (.int (readsF m w), false) st := by
  refine eq_of_Ok ?_
  have hl := h.l
  have hlc : ∀ ρ, get ρ 0 = .v (wayD m e g a) → get ρ 2 = .v (.int (w.length : Int)) → lcS (FF md.Δ md.Γ (n + 3)) md.Γ (.bin .mul (.var 4) (.bi .len (.cons (.ix (.call i_path_and_ends (.cons (.var 0) (.cons (.var 2) (.cons (.var 3) .nil)))) (.cint 0)) .nil))) (.many [3, 4]) .nil ρ ((w.zipIdx).map fun x => .tup [.int (x.2 : Nat), .int x.1]) st = .ok (.lst ((((w.zipIdx).map fun x => x.1 * ((pathR m w.length (x.2 : Int)).1.length : Int))).map .int)) st := fun ρ k0 k2 => by
    rw [lcS_map0 (fun x => .int (x.1 * ((pathR m w.length (x.2 : Int)).1.length : Int))) _ _ (by rw [List.length_zipIdx]; show _ ≤ 16777216; omega) (fun x hx => ⟨_, rfl, ?_⟩), List.map_map]
    · rfl
    · obtain ⟨v, i⟩ := x
      have hx2 := List.mem_zipIdx hx
      have hi : i < w.length := by have := hx2.2.1; omega
      have hv : v ∈ w := by rw [hx2.2.2]; exact List.getElem_mem _
      have hb := h.b v hv
      have hs : small64 v = true := small_lit (by omega) (by omega)
      have hp := path_and_ends_ok (n + 1) m e g a (size := (w.length : Int)) (p := (i : Int)) (by omega) (by omega) (by omega) st
      have hm : binD .mul (.int v) (.int ((pathR m (w.length : Int) (i : Int)).1.length : Int)) = some (.int (v * ((pathR m (w.length : Int) (i : Int)).1.length : Int))) := bin_mul (by rw [hs]; rfl)
      (simp -implicitDefEqProofs [x_else, getputw, LIM, -List.map_map, -Bool.if_false_right, -Bool.if_false_left, -Bool.if_true_left, -Bool.if_true_right, k0, k2, hp, pathD, hm])
  refine go_reads_of ?_
  (repeat (first | with_reducible refine w_assoc ?_ | with_reducible refine w_skip ?_ | with_reducible refine w_pass ?_ | with_reducible refine w_end ?_ | with_reducible refine w_brk ?_ | with_reducible refine w_cnt ?_ | (with_reducible refine w_asg ?_; refine Ok_hide ?_; intro Q hQ; simp -implicitDefEqProofs [Ev.ite_hid Q, x_else, getputw, LIM, -List.map_map, -Bool.if_false_right, -Bool.if_false_left, -Bool.if_true_left, -Bool.if_true_right, need_way_ok _ wy.is, need_weights_ok _ h, enuL_map, hlc]; refine unhide hQ ?_; clear hQ; clear Q) | (with_reducible refine w_ret ?_; refine Ok_hide ?_; intro Q hQ; simp -implicitDefEqProofs [Ev.ite_hid Q, x_else, getputw, LIM, -List.map_map, -Bool.if_false_right, -Bool.if_false_left, -Bool.if_true_left, -Bool.if_true_right, need_way_ok _ wy.is, need_weights_ok _ h, enuL_map, hlc]; refine unhide hQ ?_; clear hQ; clear Q) | (with_reducible refine w_app ?_; refine Ok_hide ?_; intro Q hQ; simp -implicitDefEqProofs [Ev.ite_hid Q, x_else, getputw, LIM, -List.map_map, -Bool.if_false_right, -Bool.if_false_left, -Bool.if_true_left, -Bool.if_true_right, need_way_ok _ wy.is, need_weights_ok _ h, enuL_map, hlc]; refine unhide hQ ?_; clear hQ; clear Q) | (with_reducible refine w_pasg ?_; refine Ok_hide ?_; intro Q hQ; simp -implicitDefEqProofs [Ev.ite_hid Q, x_else, getputw, LIM, -List.map_map, -Bool.if_false_right, -Bool.if_false_left, -Bool.if_true_left, -Bool.if_true_right, need_way_ok _ wy.is, need_weights_ok _ h, enuL_map, hlc]; refine unhide hQ ?_; clear hQ; clear Q) | (with_reducible refine w_tasg ?_; refine Ok_hide ?_; intro Q hQ; simp -implicitDefEqProofs [Ev.ite_hid Q, x_else, getputw, LIM, -List.map_map, -Bool.if_false_right, -Bool.if_false_left, -Bool.if_true_left, -Bool.if_true_right, need_way_ok _ wy.is, need_weights_ok _ h, enuL_map, hlc]; refine unhide hQ ?_; clear hQ; clear Q) | (with_reducible refine w_asgo ?_; refine Ok_hide ?_; intro Q hQ; simp -implicitDefEqProofs [Ev.ite_hid Q, x_else, getputw, LIM, -List.map_map, -Bool.if_false_right, -Bool.if_false_left, -Bool.if_true_left, -Bool.if_true_right, need_way_ok _ wy.is, need_weights_ok _ h, enuL_map, hlc]; refine unhide hQ ?_; clear hQ; clear Q) | (with_reducible refine w_fz ?_; refine Ok_hide ?_; intro Q hQ; simp -implicitDefEqProofs [Ev.ite_hid Q, x_else, getputw, LIM, -List.map_map, -Bool.if_false_right, -Bool.if_false_left, -Bool.if_true_left, -Bool.if_true_right, need_way_ok _ wy.is, need_weights_ok _ h, enuL_map, hlc]; refine unhide hQ ?_; clear hQ; clear Q) | (with_reducible refine w_setix ?_; refine Ok_hide ?_; intro Q hQ; simp -implicitDefEqProofs [Ev.ite_hid Q, x_else, getputw, LIM, -List.map_map, -Bool.if_false_right, -Bool.if_false_left, -Bool.if_true_left, -Bool.if_true_right, need_way_ok _ wy.is, need_weights_ok _ h, enuL_map, hlc]; refine unhide hQ ?_; clear hQ; clear Q) | (with_reducible refine w_exp ?_; refine Ok_hide ?_; intro Q hQ; simp -implicitDefEqProofs [Ev.ite_hid Q, x_else, getputw, LIM, -List.map_map, -Bool.if_false_right, -Bool.if_false_left, -Bool.if_true_left, -Bool.if_true_right, need_way_ok _ wy.is, need_weights_ok _ h, enuL_map, hlc]; refine unhide hQ ?_; clear hQ; clear Q) | (with_reducible refine w_for ?_; refine Ok_hide ?_; intro Q hQ; simp -implicitDefEqProofs [Ev.ite_hid Q, x_else, getputw, LIM, -List.map_map, -Bool.if_false_right, -Bool.if_false_left, -Bool.if_true_left, -Bool.if_true_right, need_way_ok _ wy.is, need_weights_ok _ h, enuL_map, hlc]; refine unhide hQ ?_; clear hQ; clear Q) | (with_reducible refine w_ite ?_; refine Ok_hide ?_; intro Q hQ; simp -implicitDefEqProofs [Ev.ite_hid Q, x_else, getputw, LIM, -List.map_map, -Bool.if_false_right, -Bool.if_false_left, -Bool.if_true_left, -Bool.if_true_right, need_way_ok _ wy.is, need_weights_ok _ h, enuL_map, hlc]; refine unhide hQ ?_; clear hQ; clear Q; first | refine c2_t ?_ | refine c2_f ?_) | (with_reducible refine w_shr (by simp [getputw]; rfl) ?_)))
  simp -implicitDefEqProofs [readsF]

-- needs: wmath wgt2
/-! ### the tree of halvings as one of the trees -/
/-- the path's length, by halves of a size -/
def depS (m : String) : Nat → Int → Int → Nat
  | 0, _, _ => 0
  | n + 1, s, p => if midF m 0 s = p then 1 else if midF m 0 s < p then depS m n (s - 1 - midF m 0 s) (p - midF m 0 s - 1) + 1 else depS m n (midF m 0 s) p + 1
theorem mid_shift (m : String) (lo hi : Int) : midF m lo hi = lo + midF m 0 (hi - lo) := by
  unfold midF
  split <;> omega
theorem path_dep {m : String} : ∀ (n : Nat) (lo hi p : Int) (f : List Int), (pathF m p n lo hi f).1.length = f.length + depS m n (hi - lo) (p - lo)
  | 0, _, _, _, f => rfl
  | n + 1, lo, hi, p, f => by
    unfold pathF depS
    have hm := mid_shift m lo hi
    by_cases h1 : midF m lo hi = p
    · rw [if_pos h1, if_pos (by omega)]
      simp
    · rw [if_neg h1, if_neg (show ¬ midF m 0 (hi - lo) = p - lo by omega)]
      by_cases h2 : midF m lo hi < p
      · rw [if_pos h2, if_pos (show midF m 0 (hi - lo) < p - lo by omega), path_dep n, List.length_append, List.length_singleton]
        have e1 : hi - (midF m lo hi + 1) = hi - lo - 1 - midF m 0 (hi - lo) := by omega
        have e2 : p - (midF m lo hi + 1) = p - lo - midF m 0 (hi - lo) - 1 := by omega
        rw [e1, e2]
        omega
      · rw [if_neg h2, if_neg (show ¬ midF m 0 (hi - lo) < p - lo by omega), path_dep n, List.length_append, List.length_singleton]
        have e1 : midF m lo hi - lo = midF m 0 (hi - lo) := by omega
        rw [e1]
        omega
/-- all depths of a size -/
def depL (m : String) : Nat → Nat → List Nat
  | 0, _ => []
  | n + 1, s => if s = 0 then [] else (depL m n (midF m 0 s).toNat).map (· + 1) ++ 1 :: (depL m n (s - 1 - (midF m 0 s).toNat)).map (· + 1)
theorem mid_nat (m : String) {s : Nat} (h : 0 < s) : 0 ≤ midF m 0 s ∧ (midF m 0 s).toNat < s := by
  have := midF_rng m (lo := 0) (hi := s) (by omega)
  omega
theorem depL_len {m : String} : ∀ (n s : Nat), s ≤ n → (depL m n s).length = s
  | 0, s, h => by show 0 = s; omega
  | n + 1, s, h => by
    unfold depL
    split
    · rename_i h0; rw [h0]; rfl
    · have := mid_nat m (s := s) (by omega)
      rw [List.length_append, List.length_map, List.length_cons, List.length_map, depL_len n _ (by omega), depL_len n _ (by omega)]
      omega
theorem depL_get {m : String} : ∀ (n k s : Nat), s ≤ n → s ≤ k → ∀ i, i < s → (depL m n s)[i]? = some (depS m k s i)
  | 0, k, s, h, _, i, hi => by omega
  | n + 1, 0, s, _, h, i, hi => by omega
  | n + 1, k + 1, s, h, hk, i, hi => by
    obtain ⟨h0, h1⟩ := mid_nat m (s := s) (by omega)
    unfold depL depS
    rw [if_neg (by omega)]
    have hl : ((depL m n (midF m 0 s).toNat).map (· + 1)).length = (midF m 0 s).toNat := by rw [List.length_map, depL_len n _ (by omega)]
    by_cases z1 : midF m 0 s = i
    · rw [if_pos z1, List.getElem?_append_right (by omega), hl, show i - (midF m 0 s).toNat = 0 by omega]
      rfl
    · rw [if_neg z1]
      by_cases z2 : midF m 0 s < i
      · rw [if_pos z2, List.getElem?_append_right (by omega), hl]
        obtain ⟨j, hj⟩ : ∃ j, i - (midF m 0 s).toNat = j + 1 := ⟨i - (midF m 0 s).toNat - 1, by omega⟩
        rw [hj, List.getElem?_cons_succ, List.getElem?_map, depL_get n k _ (by omega) (by omega) j (by omega)]
        show some (depS m k ((s - 1 - (midF m 0 s).toNat : Nat) : Int) (j : Int) + 1) = _
        have e1 : ((s - 1 - (midF m 0 s).toNat : Nat) : Int) = (s : Int) - 1 - midF m 0 s := by omega
        have e2 : (j : Int) = (i : Int) - midF m 0 s - 1 := by omega
        rw [e1, e2]
      · rw [if_neg z2, List.getElem?_append_left (by omega), List.getElem?_map, depL_get n k _ (by omega) (by omega) i (by omega)]
        show some (depS m k (((midF m 0 s).toNat : Nat) : Int) (i : Int) + 1) = _
        have e1 : (((midF m 0 s).toNat : Nat) : Int) = midF m 0 s := by omega
        rw [e1]
def dot (w : List Int) (d : List Nat) : Int := (List.zipWith (fun (x : Int) (y : Nat) => x * (y : Int)) w d).sum
theorem dot_succ : ∀ (w : List Int) (d : List Nat), w.length = d.length → dot w (d.map (· + 1)) = w.sum + dot w d
  | [], [], _ => rfl
  | x :: w, y :: d, h => by
    have := dot_succ w d (by simpa using h)
    unfold dot at this ⊢
    rw [List.map_cons, List.zipWith_cons_cons, List.zipWith_cons_cons, List.sum_cons, List.sum_cons, List.sum_cons, this]
    have : x * ((y + 1 : Nat) : Int) = x * (y : Int) + x := by rw [Int.natCast_add, Int.mul_add]; simp
    omega
  | [], _ :: _, h => by simp at h
  | _ :: _, [], h => by simp at h
theorem dot_app {a b : List Int} {c d : List Nat} (h : a.length = c.length) : dot (a ++ b) (c ++ d) = dot a c + dot b d := by
  unfold dot
  rw [List.zipWith_append h, List.sum_append]
/-- the sum of reads of a list of weights by halving -/
def treeS (m : String) (w : List Int) : Int := dot w (depL m w.length w.length)
theorem depL_fuel {m : String} (n k s : Nat) (h1 : s ≤ n) (h2 : s ≤ k) : depL m n s = depL m k s := by
  refine List.ext_getElem? fun i => ?_
  by_cases hi : i < s
  · rw [depL_get n s s h1 (Nat.le_refl _) i hi, depL_get k s s h2 (Nat.le_refl _) i hi]
  · rw [List.getElem?_eq_none (by rw [depL_len n s h1]; omega), List.getElem?_eq_none (by rw [depL_len k s h2]; omega)]
theorem treeS_eq {m : String} {w : List Int} (h : w ≠ []) : treeS m w = w.sum + (treeS m (w.take (midF m 0 w.length).toNat) + treeS m (w.drop ((midF m 0 w.length).toNat + 1))) := by
  have hl : 0 < w.length := List.length_pos_iff.mpr h
  obtain ⟨h0, h1⟩ := mid_nat m hl
  obtain ⟨n, hn⟩ : ∃ n, w.length = n + 1 := ⟨w.length - 1, by omega⟩
  have ed : depL m w.length w.length = (depL m n (midF m 0 w.length).toNat).map (· + 1) ++ 1 :: (depL m n (w.length - 1 - (midF m 0 w.length).toNat)).map (· + 1) := by
    have q : ∀ s, depL m (n + 1) s = if s = 0 then [] else (depL m n (midF m 0 s).toNat).map (· + 1) ++ 1 :: (depL m n (s - 1 - (midF m 0 s).toNat)).map (· + 1) := fun s => rfl
    have q2 := q w.length
    rw [← hn, if_neg (by omega)] at q2
    exact q2
  generalize (midF m 0 w.length).toNat = r at *
  have ew : w = w.take r ++ w[r] :: w.drop (r + 1) := by rw [List.getElem_cons_drop, List.take_append_drop]
  have l1 : (depL m n r).length = r := depL_len n r (by omega)
  have l2 : (depL m n (w.length - 1 - r)).length = w.length - 1 - r := depL_len n _ (by omega)
  unfold treeS
  rw [ed]
  have e1 : dot (w.take r ++ w[r] :: w.drop (r + 1)) ((depL m n r).map (· + 1) ++ 1 :: (depL m n (w.length - 1 - r)).map (· + 1)) = dot (w.take r) ((depL m n r).map (· + 1)) + dot (w[r] :: w.drop (r + 1)) (1 :: (depL m n (w.length - 1 - r)).map (· + 1)) := dot_app (by rw [List.length_take, List.length_map, l1]; omega)
  have e2 : dot (w[r] :: w.drop (r + 1)) (1 :: (depL m n (w.length - 1 - r)).map (· + 1)) = w[r] + dot (w.drop (r + 1)) ((depL m n (w.length - 1 - r)).map (· + 1)) := by
    unfold dot
    rw [List.zipWith_cons_cons, List.sum_cons]
    simp
  have hs := sum_split w h1
  have hlt : (w.take r).length = r := by rw [List.length_take]; omega
  have hld : (w.drop (r + 1)).length = w.length - 1 - r := by rw [List.length_drop]; omega
  have hew : (w.take r ++ w[r] :: w.drop (r + 1)).length = w.length := by rw [← ew]
  have goal : dot (w.take r ++ w[r] :: w.drop (r + 1)) ((depL m n r).map (· + 1) ++ 1 :: (depL m n (w.length - 1 - r)).map (· + 1)) = w.sum + (dot (w.take r) (depL m (w.take r).length (w.take r).length) + dot (w.drop (r + 1)) (depL m (w.drop (r + 1)).length (w.drop (r + 1)).length)) := by
    rw [e1, e2, dot_succ _ _ (by rw [hlt, l1]), dot_succ _ _ (by rw [hld, l2]), hlt, hld, depL_fuel n r r (by omega) (Nat.le_refl _), depL_fuel n (w.length - 1 - r) (w.length - 1 - r) (by omega) (Nat.le_refl _)]
    omega
  exact (congrArg (fun z => dot z _) ew).trans goal
theorem best_tree (m : String) (w : List Int) : best w ≤ treeS m w := by
  refine ind_len (P := fun w => best w ≤ treeS m w) (fun w ih => ?_) w
  by_cases hw : w = []
  · subst hw
    exact Int.le_refl _
  · obtain ⟨h0, h1⟩ := mid_nat m (List.length_pos_iff.mpr hw)
    rw [treeS_eq hw]
    have a := best_le h1
    have b := ih (w.take (midF m 0 w.length).toNat) (by rw [List.length_take]; omega)
    have c := ih (w.drop ((midF m 0 w.length).toNat + 1)) (by rw [List.length_drop]; omega)
    omega
theorem reads_tree {m : String} {w : List Int} (hw : w.length ≤ 64) : readsF m w = treeS m w := by
  unfold readsF treeS dot
  congr 1
  refine List.ext_getElem? fun i => ?_
  rw [List.getElem?_map, List.getElem?_zipIdx, List.getElem?_zipWith]
  by_cases hi : i < w.length
  · rw [List.getElem?_eq_getElem hi, depL_get w.length 64 w.length (Nat.le_refl _) hw i hi]
    simp -implicitDefEqProofs only [Option.map_some]
    unfold pathR
    rw [path_dep]
    simp
  · rw [List.getElem?_eq_none (by omega)]
    rfl

-- needs: wtree
/-! ### bounds, one heavy weight, ones -/
def digF (s : Nat) : Nat := [0, 1, 2, 2, 3, 3, 3, 3, 4, 4, 4, 4, 4].getD s 0
theorem dep_le : ∀ m ∈ ["low", "high"], ∀ s ∈ List.range 13, (depL m s s).all (fun d => decide (d ≤ digF s)) = true := by decide +kernel
theorem dot_le : ∀ (w : List Int) (d : List Nat) (D : Nat), (∀ x ∈ w, 0 ≤ x) → (∀ y ∈ d, y ≤ D) → dot w d ≤ (D : Int) * w.sum
  | [], d, D, _, _ => by
    unfold dot
    simp
  | x :: w, [], D, h, _ => by
    have := sum_nonneg h
    have := Int.mul_nonneg (show (0 : Int) ≤ D by omega) this
    exact this
  | x :: w, y :: d, D, h, hd => by
    have ih := dot_le w d D (fun z hz => h z (List.mem_cons_of_mem _ hz)) fun z hz => hd z (List.mem_cons_of_mem _ hz)
    unfold dot at ih ⊢
    rw [List.zipWith_cons_cons, List.sum_cons, List.sum_cons, Int.mul_add]
    have hy := hd y (List.mem_cons_self ..)
    have hx := h x (List.mem_cons_self ..)
    have : x * (y : Int) ≤ (D : Int) * x := by
      rw [Int.mul_comm]
      exact Int.mul_le_mul_of_nonneg_right (by omega) hx
    omega
theorem tree_le {m : String} (hm : m = "low" ∨ m = "high") {w : List Int} (hl : w.length ≤ 12) (h : ∀ x ∈ w, 0 ≤ x) : treeS m w ≤ (digF w.length : Int) * w.sum := by
  have hmem : m ∈ ["low", "high"] := by rcases hm with rfl | rfl <;> simp
  have := dep_le m hmem w.length (List.mem_range.mpr (by omega))
  rw [List.all_eq_true] at this
  exact dot_le w _ _ h fun y hy => by simpa using this y hy
theorem dig4 : ∀ s ∈ List.range 13, digF s ≤ 4 := by decide +kernel
theorem best_up {w : List Int} (hl : w.length ≤ 12) (h : ∀ x ∈ w, 0 ≤ x) : best w ≤ 4 * w.sum := by
  have a := best_tree "low" w
  have b := tree_le (m := "low") (.inl rfl) hl h
  have c := dig4 w.length (List.mem_range.mpr (by omega))
  have := Int.mul_le_mul_of_nonneg_right (show ((digF w.length : Nat) : Int) ≤ 4 by omega) (sum_nonneg h)
  omega
theorem sum_up : ∀ {w : List Int} {M : Int}, (∀ x ∈ w, x ≤ M) → w.sum ≤ M * w.length
  | [], M, _ => by simp
  | x :: w, M, h => by
    have ih := sum_up (w := w) (M := M) fun z hz => h z (List.mem_cons_of_mem _ hz)
    have := h x (List.mem_cons_self ..)
    rw [List.sum_cons, List.length_cons, Int.natCast_add, Int.mul_add]
    simp
    omega
theorem asc_one {l : List Int} {a : Int} (h : l.Pairwise (· < ·)) (hm : ∀ k, k ∈ l ↔ k = a) : l = [a] := by
  cases l with
  | nil => exact absurd ((hm a).mpr rfl) (by simp)
  | cons x r =>
    have hx : x = a := (hm x).mp (List.mem_cons_self ..)
    subst hx
    cases r with
    | nil => rfl
    | cons y r =>
      have hy : y = x := (hm y).mp (by simp)
      rw [List.pairwise_cons] at h
      have := h.1 y (List.mem_cons_self ..)
      omega
theorem mem_firsts {w : List Int} {k : Int} (h : k ∈ firstsF w) : ∃ i, i < w.length ∧ (i : Int) = k := by
  unfold firstsF at h
  obtain ⟨i, hi, rfl⟩ := List.mem_map.mp h
  exact ⟨i, List.mem_range.mp (List.mem_filter.mp hi).1, rfl⟩
section
variable {w : List Int} {j : Nat} {v : Int}
theorem set_take_same : (w.set j v).take j = w.take j := by rw [set_take, if_neg (Nat.lt_irrefl j)]
theorem set_drop_same : (w.set j v).drop (j + 1) = w.drop (j + 1) := by rw [set_drop, if_pos (Nat.lt_succ_self j)]
theorem heavy (hj : j < w.length) (hl : w.length ≤ 12) (hw : ∀ x ∈ w, 0 ≤ x ∧ x ≤ 999) (hv : 50000 ≤ v) : best (w.set j v) = (w.set j v).sum + (best (w.take j) + best (w.drop (j + 1))) ∧ firstsF (w.set j v) = [(j : Int)] := by
  have hs : ∀ x ∈ w.set j v, 0 ≤ x := fun x hx => by
    rcases List.mem_or_eq_of_mem_set hx with z | z
    · exact (hw x z).1
    · omega
  have hlen : (w.set j v).length = w.length := List.length_set
  have hne : w.set j v ≠ [] := ne_of_lt (by rw [hlen]; exact hj)
  have nt : ∀ x ∈ w.take j, 0 ≤ x := fun x hx => (hw x (List.mem_of_mem_take hx)).1
  have nd : ∀ x ∈ w.drop (j + 1), 0 ≤ x := fun x hx => (hw x (List.mem_of_mem_drop hx)).1
  have u1 := best_up (w := w.take j) (by rw [List.length_take]; omega) nt
  have u2 := best_up (w := w.drop (j + 1)) (by rw [List.length_drop]; omega) nd
  have s1 := sum_up (w := w.take j) (M := 999) fun x hx => (hw x (List.mem_of_mem_take hx)).2
  have s2 := sum_up (w := w.drop (j + 1)) (M := 999) fun x hx => (hw x (List.mem_of_mem_drop hx)).2
  rw [List.length_take] at s1
  rw [List.length_drop] at s2
  have big : ∀ i, i < w.length → i ≠ j → best (w.take j) + best (w.drop (j + 1)) < best ((w.set j v).take i) + best ((w.set j v).drop (i + 1)) := by
    intro i hi hne
    have pt : ∀ x ∈ (w.set j v).take i, 0 ≤ x := fun x hx => hs x (List.mem_of_mem_take hx)
    have pd : ∀ x ∈ (w.set j v).drop (i + 1), 0 ≤ x := fun x hx => hs x (List.mem_of_mem_drop hx)
    have b1 := sum_le_best pt
    have b2 := sum_le_best pd
    have n1 := sum_nonneg pt
    have n2 := sum_nonneg pd
    have mem : v ≤ ((w.set j v).take i).sum + ((w.set j v).drop (i + 1)).sum := by
      have := sum_split (w.set j v) (i := i) (by rw [hlen]; exact hi)
      rw [sum_set hj v] at this
      have g : (w.set j v)[i]'(by rw [hlen]; exact hi) = w[i] := List.getElem_set_ne (Ne.symm hne) _
      rw [g] at this
      have t := sum_split w hi
      have hsp : w[i] + w[j] ≤ w.sum := by
        have q := sum_split w hj
        by_cases z : i < j
        · have hm : w[i] ∈ w.take j := by
            have : (w.take j)[i]'(by rw [List.length_take]; omega) = w[i] := List.getElem_take
            rw [← this]
            exact List.getElem_mem _
          have : w[i] ≤ (w.take j).sum := by
            obtain ⟨a, b, hab⟩ := List.append_of_mem hm
            have := sum_nonneg (w := a) fun x hx => nt x (by rw [hab]; simp -implicitDefEqProofs [hx])
            have := sum_nonneg (w := b) fun x hx => nt x (by rw [hab]; simp -implicitDefEqProofs [hx])
            rw [hab, List.sum_append, List.sum_cons]
            omega
          have := sum_nonneg nd
          omega
        · have hm : w[i] ∈ w.drop (j + 1) := by
            have : (w.drop (j + 1))[i - (j + 1)]'(by rw [List.length_drop]; omega) = w[i] := by
              rw [List.getElem_drop]
              congr 1
              omega
            rw [← this]
            exact List.getElem_mem _
          have : w[i] ≤ (w.drop (j + 1)).sum := by
            obtain ⟨a, b, hab⟩ := List.append_of_mem hm
            have := sum_nonneg (w := a) fun x hx => nd x (by rw [hab]; simp -implicitDefEqProofs [hx])
            have := sum_nonneg (w := b) fun x hx => nd x (by rw [hab]; simp -implicitDefEqProofs [hx])
            rw [hab, List.sum_append, List.sum_cons]
            omega
          have := sum_nonneg nt
          omega
      omega
    omega
  obtain ⟨i, hi, hb⟩ := best_at hne
  rw [hlen] at hi
  have hle := best_le (w := w.set j v) (i := j) (by rw [hlen]; exact hj)
  rw [set_take_same, set_drop_same] at hle
  have hij : i = j := by
    by_cases z : i = j
    · exact z
    · have := big i hi z
      omega
  subst hij
  rw [set_take_same, set_drop_same] at hb
  refine ⟨hb, asc_one (firsts_asc _) fun k => ⟨fun hk => ?_, ?_⟩⟩
  · obtain ⟨q, hq, rfl⟩ := mem_firsts hk
    rw [hlen] at hq
    have := (firsts_iff hne (i := q) (by rw [hlen]; exact hq)).mp hk
    by_cases z : q = i
    · rw [z]
    · have := big q hq z
      omega
  · rintro rfl
    refine (firsts_iff hne (by rw [hlen]; exact hj)).mpr ?_
    rw [set_take_same, set_drop_same]
    omega
theorem dot_set : ∀ (w : List Int) (d : List Nat) (j : Nat) (hj : j < w.length) (hd : j < d.length) (v : Int), dot (w.set j v) d = dot w d + (v - w[j]) * (d[j] : Int)
  | [], _, _, h, _, _ => by simp at h
  | _ :: _, [], _, _, h, _ => by simp at h
  | x :: w, y :: d, 0, _, _, v => by
    unfold dot
    simp -implicitDefEqProofs only [List.set_cons_zero, List.zipWith_cons_cons, List.sum_cons, List.getElem_cons_zero]
    rw [Int.sub_mul]
    omega
  | x :: w, y :: d, j + 1, hj, hd, v => by
    have ih := dot_set w d j (by simpa using hj) (by simpa using hd) v
    unfold dot at ih ⊢
    simp -implicitDefEqProofs only [List.set_cons_succ, List.zipWith_cons_cons, List.sum_cons, List.getElem_cons_succ]
    rw [ih]
    omega
theorem tree_set {m : String} (hj : j < w.length) (hl : w.length ≤ 60) : treeS m (w.set j v) = treeS m w + (v - w[j]) * ((pathR m (w.length : Int) (j : Int)).1.length : Int) := by
  unfold treeS
  rw [List.length_set, dot_set w _ j hj (by rw [depL_len _ _ (Nat.le_refl _)]; exact hj)]
  congr 2
  have := depL_get (m := m) w.length 64 w.length (Nat.le_refl _) (by omega) j hj
  have hg := List.getElem?_eq_getElem (l := depL m w.length w.length) (i := j) (by rw [depL_len _ _ (Nat.le_refl _)]; exact hj)
  rw [this] at hg
  have hg := Option.some.inj hg
  rw [← hg]
  unfold pathR
  rw [path_dep]
  simp
end
/-! ### one among zeros -/
theorem sum_rep (c : Int) : ∀ k : Nat, (List.replicate k c).sum = c * k
  | 0 => by simp
  | k + 1 => by rw [List.replicate_succ, List.sum_cons, sum_rep c k, Int.natCast_add, Int.mul_add]; simp; omega
theorem best_zeros (k : Nat) (hk : k ≤ 12) : best (List.replicate k 0) = 0 := by
  have h : ∀ x ∈ List.replicate k (0 : Int), 0 ≤ x := fun x hx => by rw [(List.mem_replicate.mp hx).2]; exact Int.le_refl _
  have a := best_up (w := List.replicate k 0) (by rw [List.length_replicate]; exact hk) h
  have b := best_nonneg _ h
  have := sum_rep 0 k
  omega
def oneAt (s j : Nat) : List Int := (List.replicate s 0).set j 1
theorem oneAt_eq {s j : Nat} : oneAt s j = (List.range s).map fun (i : Nat) => if (i : Int) = (j : Int) then 1 else 0 := by
  unfold oneAt
  refine List.ext_getElem? fun i => ?_
  rw [List.getElem?_map]
  by_cases hi : i < s
  · rw [List.getElem?_range hi, List.getElem?_eq_getElem (by rw [List.length_set, List.length_replicate]; exact hi), List.getElem_set, List.getElem_replicate]
    by_cases z : j = i
    · rw [if_pos z]; simp -implicitDefEqProofs [z]
    · rw [if_neg z]; simp; omega
  · rw [List.getElem?_eq_none (by rw [List.length_set, List.length_replicate]; omega), List.getElem?_eq_none (by rw [List.length_range]; omega)]
    rfl
theorem one_best {s j : Nat} (hj : j < s) (hs : s ≤ 12) : best (oneAt s j) = 1 ∧ (j : Int) ∈ firstsF (oneAt s j) := by
  have hne : oneAt s j ≠ [] := ne_of_lt (i := j) (by unfold oneAt; rw [List.length_set, List.length_replicate]; exact hj)
  have hl : (oneAt s j).length = s := by unfold oneAt; rw [List.length_set, List.length_replicate]
  have hn : ∀ x ∈ oneAt s j, 0 ≤ x := fun x hx => by
    rcases List.mem_or_eq_of_mem_set hx with z | z
    · rw [(List.mem_replicate.mp z).2]; exact Int.le_refl _
    · omega
  have hsum : (oneAt s j).sum = 1 := by
    unfold oneAt
    rw [sum_set (by rw [List.length_replicate]; exact hj), sum_rep, List.getElem_replicate]
    omega
  have h1 := sum_le_best hn
  have hle := best_le (w := oneAt s j) (i := j) (by rw [hl]; exact hj)
  have e1 : best ((oneAt s j).take j) = 0 := by
    unfold oneAt
    rw [set_take_same, List.take_replicate]
    exact best_zeros _ (by omega)
  have e2 : best ((oneAt s j).drop (j + 1)) = 0 := by
    unfold oneAt
    rw [set_drop_same, List.drop_replicate]
    exact best_zeros _ (by omega)
  have hb : best (oneAt s j) = 1 := by omega
  exact ⟨hb, (firsts_iff hne (by rw [hl]; exact hj)).mpr (by omega)⟩
theorem one_tree {m : String} (hm : m = "low" ∨ m = "high") {s j : Nat} (hj : j < s) (hs : s ≤ 12) : treeS m (oneAt s j) = ((pathR m (s : Int) (j : Int)).1.length : Int) := by
  unfold oneAt
  rw [tree_set (by rw [List.length_replicate]; exact hj) (by rw [List.length_replicate]; omega), List.getElem_replicate, List.length_replicate]
  have h : ∀ x ∈ List.replicate s (0 : Int), 0 ≤ x := fun x hx => by rw [(List.mem_replicate.mp hx).2]; exact Int.le_refl _
  have a := tree_le hm (w := List.replicate s 0) (by rw [List.length_replicate]; exact hs) h
  have b := best_tree m (List.replicate s 0)
  have c := best_zeros s hs
  rw [sum_rep] at a
  omega
/-! ### ones -/
def bT (n : Nat) : Int := [0, 1, 3, 5, 8, 11, 14, 17, 21, 25, 29, 33, 37].getD n 0
def partsT (n : Nat) : List Int := (List.range n).map fun i => bT i + bT (n - 1 - i)
def onesF (n : Nat) : List Int := ((List.range n).filter fun i => decide (bT i + bT (n - 1 - i) = mn (partsT n))).map fun (i : Nat) => (i : Int)
theorem bT_step : ∀ n ∈ List.range 13, n = 0 ∨ (n : Int) + mn (partsT n) = bT n := by decide +kernel
theorem parts_ones {c : Int} {n : Nat} (hb : ∀ i, i < n → best (List.replicate i c) = c * bT i) : partsF (List.replicate n c) = (partsT n).map (c * ·) := by
  unfold partsF partsT
  rw [List.length_replicate, List.map_map]
  refine List.map_congr_left fun i hi => ?_
  have hi := List.mem_range.mp hi
  rw [List.take_replicate, List.drop_replicate, Nat.min_eq_left (by omega), hb i hi, hb (n - (i + 1)) (by omega), show n - (i + 1) = n - 1 - i by omega]
  show _ = c * (bT i + bT (n - 1 - i))
  rw [Int.mul_add]
theorem mn_map_mul {c : Int} (hc : 0 < c) {l : List Int} (h : l ≠ []) : mn (l.map (c * ·)) = c * mn l := by
  refine mn_eq (List.mem_map.mpr ⟨_, mn_mem h, rfl⟩) fun x hx => ?_
  obtain ⟨y, hy, rfl⟩ := List.mem_map.mp hx
  exact Int.mul_le_mul_of_nonneg_left (mn_le hy) (by omega)
theorem best_rep {c : Int} (hc : 0 < c) : ∀ n, n ≤ 12 → best (List.replicate n c) = c * bT n := by
  intro n
  induction n using Nat.strongRecOn with
  | _ n ih =>
    intro hn
    by_cases h0 : n = 0
    · subst h0
      show best [] = c * 0
      rw [best_nil, Int.mul_zero]
    · have hne : List.replicate n c ≠ [] := by simpa using h0
      have hp : partsT n ≠ [] := by
        unfold partsT
        intro z
        have := congrArg List.length z
        rw [List.length_map, List.length_range] at this
        exact h0 this
      have := (bT_step n (List.mem_range.mpr (by omega))).resolve_left h0
      rw [best_eq hne, parts_ones fun i hi => ih i hi (by omega), mn_map_mul hc hp, sum_rep, ← Int.mul_add, this]
theorem firsts_ones {n : Nat} (hn : n ≤ 12) (h0 : n ≠ 0) : firstsF (List.replicate n 1) = onesF n := by
  unfold firstsF onesF
  rw [parts_ones (c := 1) fun i hi => best_rep (by decide) i (by omega)]
  have e : (partsT n).map (1 * ·) = partsT n := by simp
  rw [e, List.length_replicate]
  congr 1
  refine List.filter_congr fun i hi => ?_
  have hi := List.mem_range.mp hi
  rw [List.take_replicate, List.drop_replicate, Nat.min_eq_left (by omega), best_rep (by decide) i (by omega), best_rep (by decide) (n - (i + 1)) (by omega), show n - (i + 1) = n - 1 - i by omega, Int.one_mul, Int.one_mul]
theorem ones_few : ∀ m ∈ ["low", "high"], ∀ s ∈ List.range 13, s = 0 ∨ (onesF s = ((onesF s).map fun k => (s : Int) - 1 - k).reverse ∧ treeS m (List.replicate s 1) = bT s ∧ ∀ p ∈ List.range s, ∃ r, (pathR m (s : Int) (p : Int)).1 = midF m 0 s :: r ∧ midF m 0 s ∈ onesF s) := by
  have key : ∀ m ∈ ["low", "high"], ∀ s ∈ List.range 13, s = 0 ∨ (onesF s = ((onesF s).map fun k => (s : Int) - 1 - k).reverse ∧ treeS m (List.replicate s 1) = bT s ∧ ∀ p ∈ List.range s, (pathR m (s : Int) (p : Int)).1.head? = some (midF m 0 s) ∧ midF m 0 s ∈ onesF s) := by decide +kernel
  intro m hm s hs
  rcases key m hm s hs with z | ⟨z1, z2, z3⟩
  · exact .inl z
  · refine .inr ⟨z1, z2, fun p hp => ?_⟩
    obtain ⟨q1, q2⟩ := z3 p hp
    revert q1
    cases (pathR m (s : Int) (p : Int)).1 with
    | nil => intro q; cases q
    | cons x r => intro q; cases q; exact ⟨r, rfl, q2⟩

-- needs: tabs
theorem sh_ints : ∀ (ns : List Int), (ns.map D.int).all (D.sh 63) = true
  | [] => rfl
  | n :: ns => by rw [List.map_cons, List.all_cons, sh_ints ns]; rfl
theorem eqD_nil (s : List Int) : eqD (.lst (s.map .int)) (.lst []) = some s.isEmpty := by
  have h1 : D.sh 64 (.lst (s.map .int)) = true := sh_ints s
  have h2 : D.sh 64 (.lst []) = true := rfl
  show (if (D.sh 64 (.lst (s.map .int)) && D.sh 64 (.lst [])) = true then some (eqvN 66 (.lst (s.map .int)) (.lst [])) else none) = _
  rw [h1, h2]
  cases s <;> rfl
theorem last_at (s : List Int) (h : s ≠ []) : atD (.lst (s.map .int)) (.int (-1)) = some (.int (s.getLast h)) := by
  have hl : 0 < s.length := List.length_pos_iff.mpr h
  show (ixD (s.map D.int).length (-1)).bind (fun j => (s.map D.int)[j]?) = _
  unfold ixD
  rw [if_neg (by decide), List.length_map, if_pos (by omega)]
  show (s.map D.int)[((-1 : Int) + s.length).toNat]? = _
  have e : ((-1 : Int) + s.length).toNat = s.length - 1 := by omega
  rw [e, List.getElem?_map, List.getLast_eq_getElem, List.getElem?_eq_getElem (by omega)]
  rfl
theorem lastn_at (s : List Int) (h : s ≠ []) : atD (.lst (s.map .int)) (.int ((s.length : Int) - 1)) = some (.int (s.getLast h)) := by
  have hl : 0 < s.length := List.length_pos_iff.mpr h
  show (ixD (s.map D.int).length ((s.length : Int) - 1)).bind (fun j => (s.map D.int)[j]?) = _
  unfold ixD
  rw [if_pos (by omega), List.length_map, if_pos (by omega)]
  show (s.map D.int)[((s.length : Int) - 1).toNat]? = _
  have e : ((s.length : Int) - 1).toNat = s.length - 1 := by omega
  rw [e, List.getElem?_map, List.getLast_eq_getElem, List.getElem?_eq_getElem (by omega)]
  rfl
theorem first_at (s : List Int) (h : s ≠ []) : atD (.lst (s.map .int)) (.int 0) = some (.int (s.head h)) := by
  have hl : 0 < s.length := List.length_pos_iff.mpr h
  show (ixD (s.map D.int).length 0).bind (fun j => (s.map D.int)[j]?) = _
  unfold ixD
  rw [if_pos (by decide), List.length_map, if_pos (by omega)]
  show (s.map D.int)[0]? = _
  rw [List.getElem?_map, List.getElem?_eq_getElem hl, List.head_eq_getElem]
  rfl

-- needs: path wayok lasts
theorem depth_ok (n : Nat) {m e g a : String} (wy : WayOk m e g a) {size p : Int} (h0 : 0 ≤ p) (h1 : p < size) (h2 : size ≤ 1000000000000000) (st : Sto) : FF md.Δ md.Γ (n + 4) i_depth [wayD m e g a, .int size, .int p] st = .ok (.int ((pathR m size p).1.length : Nat), false) st := by
  refine eq_of_Ok ?_
  have hF : md.Γ g_FAR = .int 1000000000000000 := rfl
  have hp := fun n st => path_and_ends_ok n m e g a h0 h1 (by omega) st
  refine go_depth ?_
  (repeat (first | with_reducible refine w_assoc ?_ | with_reducible refine w_skip ?_ | with_reducible refine w_pass ?_ | with_reducible refine w_end ?_ | with_reducible refine w_brk ?_ | with_reducible refine w_cnt ?_ | (with_reducible refine w_asg ?_; refine Ok_hide ?_; intro Q hQ; simp -implicitDefEqProofs [Ev.ite_hid Q, x_else, getputw, LIM, -List.map_map, -Bool.if_false_right, -Bool.if_false_left, -Bool.if_true_left, -Bool.if_true_right, need_way_ok _ wy.is, hF, need_size_ok _ (show 0 ≤ size by omega) h2, need_place_ok _ h0 h1, hp, pathD]; refine unhide hQ ?_; clear hQ; clear Q) | (with_reducible refine w_ret ?_; refine Ok_hide ?_; intro Q hQ; simp -implicitDefEqProofs [Ev.ite_hid Q, x_else, getputw, LIM, -List.map_map, -Bool.if_false_right, -Bool.if_false_left, -Bool.if_true_left, -Bool.if_true_right, need_way_ok _ wy.is, hF, need_size_ok _ (show 0 ≤ size by omega) h2, need_place_ok _ h0 h1, hp, pathD]; refine unhide hQ ?_; clear hQ; clear Q) | (with_reducible refine w_app ?_; refine Ok_hide ?_; intro Q hQ; simp -implicitDefEqProofs [Ev.ite_hid Q, x_else, getputw, LIM, -List.map_map, -Bool.if_false_right, -Bool.if_false_left, -Bool.if_true_left, -Bool.if_true_right, need_way_ok _ wy.is, hF, need_size_ok _ (show 0 ≤ size by omega) h2, need_place_ok _ h0 h1, hp, pathD]; refine unhide hQ ?_; clear hQ; clear Q) | (with_reducible refine w_pasg ?_; refine Ok_hide ?_; intro Q hQ; simp -implicitDefEqProofs [Ev.ite_hid Q, x_else, getputw, LIM, -List.map_map, -Bool.if_false_right, -Bool.if_false_left, -Bool.if_true_left, -Bool.if_true_right, need_way_ok _ wy.is, hF, need_size_ok _ (show 0 ≤ size by omega) h2, need_place_ok _ h0 h1, hp, pathD]; refine unhide hQ ?_; clear hQ; clear Q) | (with_reducible refine w_tasg ?_; refine Ok_hide ?_; intro Q hQ; simp -implicitDefEqProofs [Ev.ite_hid Q, x_else, getputw, LIM, -List.map_map, -Bool.if_false_right, -Bool.if_false_left, -Bool.if_true_left, -Bool.if_true_right, need_way_ok _ wy.is, hF, need_size_ok _ (show 0 ≤ size by omega) h2, need_place_ok _ h0 h1, hp, pathD]; refine unhide hQ ?_; clear hQ; clear Q) | (with_reducible refine w_asgo ?_; refine Ok_hide ?_; intro Q hQ; simp -implicitDefEqProofs [Ev.ite_hid Q, x_else, getputw, LIM, -List.map_map, -Bool.if_false_right, -Bool.if_false_left, -Bool.if_true_left, -Bool.if_true_right, need_way_ok _ wy.is, hF, need_size_ok _ (show 0 ≤ size by omega) h2, need_place_ok _ h0 h1, hp, pathD]; refine unhide hQ ?_; clear hQ; clear Q) | (with_reducible refine w_fz ?_; refine Ok_hide ?_; intro Q hQ; simp -implicitDefEqProofs [Ev.ite_hid Q, x_else, getputw, LIM, -List.map_map, -Bool.if_false_right, -Bool.if_false_left, -Bool.if_true_left, -Bool.if_true_right, need_way_ok _ wy.is, hF, need_size_ok _ (show 0 ≤ size by omega) h2, need_place_ok _ h0 h1, hp, pathD]; refine unhide hQ ?_; clear hQ; clear Q) | (with_reducible refine w_setix ?_; refine Ok_hide ?_; intro Q hQ; simp -implicitDefEqProofs [Ev.ite_hid Q, x_else, getputw, LIM, -List.map_map, -Bool.if_false_right, -Bool.if_false_left, -Bool.if_true_left, -Bool.if_true_right, need_way_ok _ wy.is, hF, need_size_ok _ (show 0 ≤ size by omega) h2, need_place_ok _ h0 h1, hp, pathD]; refine unhide hQ ?_; clear hQ; clear Q) | (with_reducible refine w_exp ?_; refine Ok_hide ?_; intro Q hQ; simp -implicitDefEqProofs [Ev.ite_hid Q, x_else, getputw, LIM, -List.map_map, -Bool.if_false_right, -Bool.if_false_left, -Bool.if_true_left, -Bool.if_true_right, need_way_ok _ wy.is, hF, need_size_ok _ (show 0 ≤ size by omega) h2, need_place_ok _ h0 h1, hp, pathD]; refine unhide hQ ?_; clear hQ; clear Q) | (with_reducible refine w_for ?_; refine Ok_hide ?_; intro Q hQ; simp -implicitDefEqProofs [Ev.ite_hid Q, x_else, getputw, LIM, -List.map_map, -Bool.if_false_right, -Bool.if_false_left, -Bool.if_true_left, -Bool.if_true_right, need_way_ok _ wy.is, hF, need_size_ok _ (show 0 ≤ size by omega) h2, need_place_ok _ h0 h1, hp, pathD]; refine unhide hQ ?_; clear hQ; clear Q) | (with_reducible refine w_ite ?_; refine Ok_hide ?_; intro Q hQ; simp -implicitDefEqProofs [Ev.ite_hid Q, x_else, getputw, LIM, -List.map_map, -Bool.if_false_right, -Bool.if_false_left, -Bool.if_true_left, -Bool.if_true_right, need_way_ok _ wy.is, hF, need_size_ok _ (show 0 ≤ size by omega) h2, need_place_ok _ h0 h1, hp, pathD]; refine unhide hQ ?_; clear hQ; clear Q; first | refine c2_t ?_ | refine c2_f ?_) | (with_reducible refine w_shr (by simp [getputw]; rfl) ?_)))
  simp
-- needs: mid wayok
/-! ### greatest distances -/
def imin (i j : Int) : Int := if j < i then j else i
def imax (i j : Int) : Int := if j > i then j else i
def lowF (m : String) : Nat → Int → Int → Int
  | 0, r, _ => r
  | n + 1, r, w => if r = 0 ∨ w = 0 then r else imin (midF m 0 r + 1 + lowF m n (r - 1 - midF m 0 r) w) (lowF m n (midF m 0 r) (w - 1))
def highF (m : String) : Nat → Int → Int → Int
  | 0, _, _ => 0
  | n + 1, r, w => if r = 0 ∨ w = 0 then 0 else imax (midF m 0 r + 1 + highF m n (r - 1 - midF m 0 r) (w - 1)) (highF m n (midF m 0 r) w)
def lowR (m : String) (r w : Int) : Int := lowF m 64 r w
def highR (m : String) (r w : Int) : Int := highF m 64 r w
def max4 (a b c d : Int) : Int := imax d (imax c (imax b a))
def farF (m : String) : Nat → Int → Int → Int
  | 0, _, _ => 0
  | n + 1, r, w => if r = 0 ∨ w = 0 then 0 else (maxL [farF m n (midF m 0 r) w, farF m n (r - 1 - midF m 0 r) w, r - lowR m (midF m 0 r) (w - 1), midF m 0 r + 1 + highR m (r - 1 - midF m 0 r) (w - 1)]).getD 0
def farR (m : String) (r w : Int) : Int := farF m 64 r w
theorem mid_half {m : String} {r : Int} {k : Nat} (h : 0 < r) (hk : r < 2 ^ (k + 1)) : 0 ≤ midF m 0 r ∧ midF m 0 r < r ∧ midF m 0 r < 2 ^ k ∧ 0 ≤ r - 1 - midF m 0 r ∧ r - 1 - midF m 0 r < 2 ^ k := by
  obtain ⟨m1, m2⟩ := midF_rng m (lo := 0) (hi := r) h
  rw [Int.pow_succ] at hk
  refine ⟨m1, m2, ?_⟩
  unfold midF at *
  split at m2 <;> split <;> omega
theorem low_fuel {m : String} : ∀ (k n n' : Nat) (r w : Int), 0 ≤ r → r < 2 ^ k → k ≤ n → k ≤ n' → lowF m n r w = lowF m n' r w
  | 0, n, n', r, w, h0, h1, _, _ => by
    have : r = 0 := by simp at h1; omega
    subst this
    cases n <;> cases n' <;> simp -implicitDefEqProofs [lowF]
  | k + 1, 0, _, _, _, _, _, h, _ => by omega
  | k + 1, n + 1, 0, _, _, _, _, _, h => by omega
  | k + 1, n + 1, n' + 1, r, w, h0, h1, h2, h3 => by
    unfold lowF
    by_cases z : r = 0 ∨ w = 0
    · rw [if_pos z, if_pos z]
    · rw [if_neg z, if_neg z]
      obtain ⟨q1, q2, q3, q4, q5⟩ := mid_half (m := m) (r := r) (k := k) (by omega) h1
      rw [low_fuel k n n' _ _ q4 q5 (by omega) (by omega), low_fuel k n n' _ _ q1 q3 (by omega) (by omega)]
theorem high_fuel {m : String} : ∀ (k n n' : Nat) (r w : Int), 0 ≤ r → r < 2 ^ k → k ≤ n → k ≤ n' → highF m n r w = highF m n' r w
  | 0, n, n', r, w, h0, h1, _, _ => by
    have : r = 0 := by simp at h1; omega
    subst this
    cases n <;> cases n' <;> simp -implicitDefEqProofs [highF]
  | k + 1, 0, _, _, _, _, _, h, _ => by omega
  | k + 1, n + 1, 0, _, _, _, _, _, h => by omega
  | k + 1, n + 1, n' + 1, r, w, h0, h1, h2, h3 => by
    unfold highF
    by_cases z : r = 0 ∨ w = 0
    · rw [if_pos z, if_pos z]
    · rw [if_neg z, if_neg z]
      obtain ⟨q1, q2, q3, q4, q5⟩ := mid_half (m := m) (r := r) (k := k) (by omega) h1
      rw [high_fuel k n n' _ _ q4 q5 (by omega) (by omega), high_fuel k n n' _ _ q1 q3 (by omega) (by omega)]
theorem far_fuel {m : String} : ∀ (k n n' : Nat) (r w : Int), 0 ≤ r → r < 2 ^ k → k ≤ n → k ≤ n' → farF m n r w = farF m n' r w
  | 0, n, n', r, w, h0, h1, _, _ => by
    have : r = 0 := by simp at h1; omega
    subst this
    cases n <;> cases n' <;> simp -implicitDefEqProofs [farF]
  | k + 1, 0, _, _, _, _, _, h, _ => by omega
  | k + 1, n + 1, 0, _, _, _, _, _, h => by omega
  | k + 1, n + 1, n' + 1, r, w, h0, h1, h2, h3 => by
    unfold farF
    by_cases z : r = 0 ∨ w = 0
    · rw [if_pos z, if_pos z]
    · rw [if_neg z, if_neg z]
      obtain ⟨q1, q2, q3, q4, q5⟩ := mid_half (m := m) (r := r) (k := k) (by omega) h1
      rw [far_fuel k n n' _ _ q4 q5 (by omega) (by omega), far_fuel k n n' _ _ q1 q3 (by omega) (by omega)]
section
variable {m : String} {r w : Int} {k : Nat}
theorem low_eq (h0 : 0 < r) (hw : w ≠ 0) (hk : r < 2 ^ (k + 1)) (h6 : k + 1 ≤ 60) : lowR m r w = imin (midF m 0 r + 1 + lowR m (r - 1 - midF m 0 r) w) (lowR m (midF m 0 r) (w - 1)) := by
  obtain ⟨q1, q2, q3, q4, q5⟩ := mid_half (m := m) h0 hk
  have e : lowR m r w = imin (midF m 0 r + 1 + lowF m 63 (r - 1 - midF m 0 r) w) (lowF m 63 (midF m 0 r) (w - 1)) := by
    unfold lowR
    conv => lhs; unfold lowF
    rw [if_neg (by omega)]
  rw [e, low_fuel k 63 64 _ _ q4 q5 (by omega) (by omega), low_fuel k 63 64 _ _ q1 q3 (by omega) (by omega)]
  rfl
theorem high_eq (h0 : 0 < r) (hw : w ≠ 0) (hk : r < 2 ^ (k + 1)) (h6 : k + 1 ≤ 60) : highR m r w = imax (midF m 0 r + 1 + highR m (r - 1 - midF m 0 r) (w - 1)) (highR m (midF m 0 r) w) := by
  obtain ⟨q1, q2, q3, q4, q5⟩ := mid_half (m := m) h0 hk
  have e : highR m r w = imax (midF m 0 r + 1 + highF m 63 (r - 1 - midF m 0 r) (w - 1)) (highF m 63 (midF m 0 r) w) := by
    unfold highR
    conv => lhs; unfold highF
    rw [if_neg (by omega)]
  rw [e, high_fuel k 63 64 _ _ q4 q5 (by omega) (by omega), high_fuel k 63 64 _ _ q1 q3 (by omega) (by omega)]
  rfl
theorem far_eq (h0 : 0 < r) (hw : w ≠ 0) (hk : r < 2 ^ (k + 1)) (h6 : k + 1 ≤ 60) : maxL [farR m (midF m 0 r) w, farR m (r - 1 - midF m 0 r) w, r - lowR m (midF m 0 r) (w - 1), midF m 0 r + 1 + highR m (r - 1 - midF m 0 r) (w - 1)] = some (farR m r w) := by
  obtain ⟨q1, q2, q3, q4, q5⟩ := mid_half (m := m) h0 hk
  have e : farR m r w = (maxL [farF m 63 (midF m 0 r) w, farF m 63 (r - 1 - midF m 0 r) w, r - lowR m (midF m 0 r) (w - 1), midF m 0 r + 1 + highR m (r - 1 - midF m 0 r) (w - 1)]).getD 0 := by
    unfold farR
    conv => lhs; unfold farF
    rw [if_neg (by omega)]
  rw [far_fuel k 63 64 _ _ q4 q5 (by omega) (by omega), far_fuel k 63 64 _ _ q1 q3 (by omega) (by omega)] at e
  rw [e]
  rfl
theorem low_triv (h : r = 0 ∨ w = 0) : lowR m r w = r := by unfold lowR lowF; rw [if_pos h]
theorem high_triv (h : r = 0 ∨ w = 0) : highR m r w = 0 := by unfold highR highF; rw [if_pos h]
theorem far_triv (h : r = 0 ∨ w = 0) : farR m r w = 0 := by unfold farR farF; rw [if_pos h]
end
/-! ### what is kept -/
abbrev Key3 := String × Int × Int
def keyK (p : Key3) : D := .tup [.str (Str.ofString p.1), .int p.2.1, .int p.2.2]
theorem en_keyK : En keyK 1 := ⟨fun a n hn => by
  cases n with
  | zero => omega
  | succ n =>
    show (D.sh n (.str (Str.ofString a.1)) && (D.sh n (.int a.2.1) && (D.sh n (.int a.2.2) && true))) = true
    rw [sh_ofS, en_int.sh _ n (by omega), en_int.sh _ n (by omega)]
    rfl, fun a b n hn => by
  cases n with
  | zero => omega
  | succ n =>
    show (eqvN n (.str (Str.ofString a.1)) (.str (Str.ofString b.1)) && (eqvN n (.int a.2.1) (.int b.2.1) && (eqvN n (.int a.2.2) (.int b.2.2) && true))) = _
    rw [en_str.eq a.1 b.1 n (by omega), en_int.eq _ _ n (by omega), en_int.eq _ _ n (by omega)]
    obtain ⟨a1, a2, a3⟩ := a
    obtain ⟨b1, b2, b3⟩ := b
    by_cases z1 : a1 = b1 <;> by_cases z2 : a2 = b2 <;> by_cases z3 : a3 = b3 <;> simp -implicitDefEqProofs [z1, z2, z3]⟩
theorem keyK_ok (p : Key3) : keyD true (keyK p) = true := rfl
/-- rows that come by halving -/
def InL (S r : Int) : Prop := ∃ d : Nat, d ≤ 51 ∧ (r + 1 = (S + 1) / 2 ^ d ∨ r + 1 = (S + 1) / 2 ^ d + 1)
theorem InL.kids {S r : Int} {m : String} (h : InL S r) (hS0 : 0 ≤ S) (hS : S ≤ 1000000000000000) (h0 : 0 < r) : InL S (midF m 0 r) ∧ InL S (r - 1 - midF m 0 r) := by
  obtain ⟨d, hd, h⟩ := h
  have hd2 : d ≤ 50 := by
    rcases Nat.lt_or_ge 50 d with z | z
    · exfalso
      have h51 : d = 51 := by omega
      subst h51
      have : (S + 1) / 2 ^ 51 = 0 := Int.ediv_eq_zero_of_lt (by omega) (by omega)
      omega
    · exact z
  have e : (S + 1) / 2 ^ (d + 1) = (S + 1) / 2 ^ d / 2 := by
    rw [Int.pow_succ, Int.ediv_ediv_of_nonneg]
    exact Int.le_of_lt (Int.pow_pos (by decide))
  have : ∀ x, (x + 1 = (S + 1) / 2 ^ d / 2 ∨ x + 1 = (S + 1) / 2 ^ d / 2 + 1) → InL S x := fun x hx => ⟨d + 1, by omega, by rw [e]; exact hx⟩
  generalize (S + 1) / 2 ^ d = a at *
  constructor
  · refine this _ ?_
    unfold midF
    split <;> omega
  · refine this _ ?_
    unfold midF
    split <;> omega
def keysL (S : Int) : List Key3 := (List.range 52).flatMap fun d => [((S + 1) / 2 ^ d - 1), (S + 1) / 2 ^ d].flatMap fun r => ["low", "high", "far"].flatMap fun s => [(0 : Int), 1, 2, 3, 4].map fun w => (s, r, w)
theorem keysL_len (S : Int) : (keysL S).length = 1560 := by
  unfold keysL
  simp
  rfl
theorem InL.key {S r w : Int} {s : String} (h : InL S r) (hs : s = "low" ∨ s = "high" ∨ s = "far") (w0 : 0 ≤ w) (w4 : w ≤ 4) : (s, r, w) ∈ keysL S := by
  obtain ⟨d, hd, h⟩ := h
  unfold keysL
  refine List.mem_flatMap.mpr ⟨d, List.mem_range.mpr (by omega), List.mem_flatMap.mpr ⟨r, ?_, List.mem_flatMap.mpr ⟨s, ?_, List.mem_map.mpr ⟨w, ?_, rfl⟩⟩⟩⟩
  · rcases h with h | h
    · exact List.mem_cons.mpr (.inl (by omega))
    · exact List.mem_cons_of_mem _ (List.mem_singleton.mpr (by omega))
  · rcases hs with rfl | rfl | rfl <;> simp
  · simp
    omega
theorem nodup_len {α : Type} [DecidableEq α] : ∀ {l K : List α}, l.Nodup → (∀ x ∈ l, x ∈ K) → l.length ≤ K.length
  | [], _, _, _ => Nat.zero_le _
  | x :: l, K, h, hs => by
    rw [List.nodup_cons] at h
    have hx := hs x (List.mem_cons_self ..)
    have := nodup_len (K := K.erase x) h.2 fun y hy => (List.mem_erase_of_ne (fun z => h.1 (by rw [← z]; exact hy))).mpr (hs y (List.mem_cons_of_mem _ hy))
    rw [List.length_erase_of_mem hx] at this
    have : 0 < K.length := List.length_pos_of_mem hx
    rw [List.length_cons]
    omega
def valF (m : String) (k : Key3) : Int := if k.1 = "low" then lowR m k.2.1 k.2.2 else if k.1 = "high" then highR m k.2.1 k.2.2 else farR m k.2.1 k.2.2
structure Memo (m : String) (S : Int) (mm : List (Key3 × Int)) : Prop where
  nd : (mm.map Prod.fst).Nodup
  ks : ∀ k ∈ mm.map Prod.fst, k ∈ keysL S
  v : ∀ k v, alook k mm = some v → valF m k = v
theorem Memo.nil (m : String) (S : Int) : Memo m S [] := ⟨.nil, by simp, fun _ _ h => by cases h⟩
theorem Memo.len {m : String} {S : Int} {mm : List (Key3 × Int)} (h : Memo m S mm) : mm.length < 16777216 := by
  have := nodup_len h.nd h.ks
  rw [List.length_map, keysL_len] at this
  omega
theorem Memo.put {m : String} {S : Int} {mm : List (Key3 × Int)} (h : Memo m S mm) {k : Key3} (hk : k ∈ keysL S) : Memo m S (aput k (valF m k) mm) := by
  have hv : ∀ q v, alook q (aput k (valF m k) mm) = some v → valF m q = v := fun q v hq => by
    rw [alook_aput] at hq
    by_cases z : q = k
    · rw [if_pos z] at hq
      rw [z]
      exact Option.some.inj hq
    · rw [if_neg z] at hq
      exact h.v q v hq
  cases hb : mm.any fun p => decide (p.1 = k) with
  | true =>
    have e : (aput k (valF m k) mm).map Prod.fst = mm.map Prod.fst := by
      unfold aput
      rw [if_pos hb, List.map_map]
      refine List.map_congr_left fun p _ => ?_
      show (if p.1 = k then (p.1, valF m k) else p).1 = p.1
      split <;> rfl
    exact ⟨by rw [e]; exact h.nd, by rw [e]; exact h.ks, hv⟩
  | false =>
    have e : (aput k (valF m k) mm).map Prod.fst = mm.map Prod.fst ++ [k] := by
      unfold aput
      rw [if_neg (by rw [hb]; decide), List.map_append]
      rfl
    refine ⟨?_, ?_, hv⟩
    · rw [e, List.nodup_append]
      refine ⟨h.nd, by simp, fun x hx y hy hxy => ?_⟩
      have hy : y = k := List.mem_singleton.mp hy
      obtain ⟨p, hp, rfl⟩ := List.mem_map.mp hx
      rw [List.any_eq_false] at hb
      exact hb p hp (decide_eq_true (hxy.trans hy))
    · rw [e]
      intro x hx
      rcases List.mem_append.mp hx with hx | hx
      · exact h.ks x hx
      · rw [List.mem_singleton.mp hx]; exact hk

-- needs: far path
/-! ### levels of halves: the numbers -/
abbrev Lev := List (Int × Int)
def cntL (l : Lev) : Int := (l.map (·.2)).sum
def totL (l : Lev) : Int := (l.map fun p => p.1 * p.2).sum
def addK (x c : Int) : Lev → Lev
  | [] => [(x, c)]
  | (k, v) :: r => if k = x then (k, v + c) :: r else (k, v) :: addK x c r
def addH (acc : Lev) (h c : Int) : Lev := if 0 < h then addK h c acc else acc
def addP (m : String) (acc : Lev) (p : Int × Int) : Lev := addH (addH acc (midF m 0 p.1) p.2) (p.1 - 1 - midF m 0 p.1) p.2
def stepL (m : String) (l : Lev) : Lev := l.foldl (addP m) []
def levF (m : String) : Nat → Lev → List Lev
  | 0, _ => []
  | n + 1, l => if l = [] then [] else l :: levF m n (stepL m l)
def levR (m : String) (size : Int) : List Lev := levF m 64 [(size, 1)]
theorem cnt_addK (x c : Int) : ∀ l, cntL (addK x c l) = cntL l + c
  | [] => by show c + 0 = 0 + c; omega
  | (k, v) :: r => by
    unfold addK
    have ih := cnt_addK x c r
    unfold cntL at ih ⊢
    split
    · simp -implicitDefEqProofs only [List.map_cons, List.sum_cons]; omega
    · simp -implicitDefEqProofs only [List.map_cons, List.sum_cons]; omega
theorem tot_addK (x c : Int) : ∀ l, totL (addK x c l) = totL l + x * c
  | [] => by show x * c + 0 = 0 + x * c; omega
  | (k, v) :: r => by
    unfold addK
    have ih := tot_addK x c r
    unfold totL at ih ⊢
    split
    · rename_i h
      subst h
      simp -implicitDefEqProofs only [List.map_cons, List.sum_cons, Int.mul_add]; omega
    · simp -implicitDefEqProofs only [List.map_cons, List.sum_cons]; omega
theorem keys_addK (x c : Int) : ∀ l, ∀ q ∈ addK x c l, (q.1 = x ∧ (0 < c → (∀ p ∈ l, 0 < p.2) → 0 < q.2)) ∨ q ∈ l
  | [], q, h => by
    have : q = (x, c) := List.mem_singleton.mp h
    subst this
    exact .inl ⟨rfl, fun h _ => h⟩
  | (k, v) :: r, q, h => by
    unfold addK at h
    split at h
    · rename_i e
      rcases List.mem_cons.mp h with rfl | h
      · exact .inl ⟨e, fun hc hp => by have := hp (k, v) (List.mem_cons_self ..); show 0 < v + c; simp at this; omega⟩
      · exact .inr (List.mem_cons_of_mem _ h)
    · rcases List.mem_cons.mp h with rfl | h
      · exact .inr (List.mem_cons_self ..)
      · rcases keys_addK x c r q h with ⟨h1, h2⟩ | h1
        · exact .inl ⟨h1, fun hc hp => h2 hc fun p hp' => hp p (List.mem_cons_of_mem _ hp')⟩
        · exact .inr (List.mem_cons_of_mem _ h1)
theorem fst_addK (x c : Int) : ∀ l : Lev, (addK x c l).map (·.1) = if x ∈ l.map (·.1) then l.map (·.1) else l.map (·.1) ++ [x]
  | [] => rfl
  | (k, v) :: r => by
    have ih := fst_addK x c r
    unfold addK
    by_cases e : k = x
    · rw [if_pos e]
      subst e
      simp
    · rw [if_neg e, List.map_cons, List.map_cons, ih]
      have : x ∈ k :: r.map (·.1) ↔ x ∈ r.map (·.1) := by
        rw [List.mem_cons]
        exact ⟨fun h => h.resolve_left fun z => e z.symm, .inr⟩
      by_cases h : x ∈ r.map (·.1)
      · rw [if_pos h, if_pos (this.mpr h)]
      · rw [if_neg h, if_neg (fun z => h (this.mp z))]
        rfl
theorem nd_addK {x c : Int} {l : Lev} (h : (l.map (·.1)).Nodup) : ((addK x c l).map (·.1)).Nodup := by
  rw [fst_addK]
  split
  · exact h
  · rename_i hx
    rw [List.nodup_append]
    exact ⟨h, by simp, fun a ha b hb e => by
      have : b = x := List.mem_singleton.mp hb
      subst this
      subst e
      exact hx ha⟩
theorem put_addK {x c : Int} : ∀ {l : Lev}, (l.map (·.1)).Nodup → aput x ((alook x l).getD 0 + c) l = addK x c l
  | [], _ => by show [(x, (0 : Int) + c)] = [(x, c)]; rw [Int.zero_add]
  | (k, u) :: r, h => by
    rw [List.map_cons, List.nodup_cons] at h
    have ih := put_addK (x := x) (c := c) h.2
    unfold addK
    by_cases e : k = x
    · subst e
      rw [if_pos rfl]
      have hm : r.map (fun p => if p.1 = k then (p.1, u + c) else p) = r := by
        refine (List.map_congr_left fun p hp => ?_).trans (List.map_id r)
        rw [if_neg (fun z => h.1 (List.mem_map.mpr ⟨p, hp, z⟩))]
        rfl
      unfold aput
      rw [if_pos (by simp), List.map_cons, if_pos rfl]
      simp -implicitDefEqProofs only [alook, if_true, Option.getD_some]
      rw [hm]
    · rw [if_neg e, ← ih]
      have ha : alook x ((k, u) :: r) = alook x r := if_neg e
      rw [ha]
      unfold aput
      rw [List.any_cons, decide_eq_false e, Bool.false_or]
      split
      · rw [List.map_cons, if_neg e]
      · rfl
/-- keys of a level -/
structure Two (a : Int) (l : Lev) : Prop where
  nd : (l.map (·.1)).Nodup
  ks : ∀ p ∈ l, (p.1 + 1 = a ∨ p.1 + 1 = a + 1) ∧ 0 < p.1 ∧ 0 < p.2
theorem Two.nil (a : Int) : Two a [] := ⟨.nil, fun _ h => nomatch h⟩
theorem Two.len {a : Int} {l : Lev} (h : Two a l) : l.length ≤ 2 := by
  have := nodup_len (K := [a - 1, a]) h.nd fun x hx => by
    obtain ⟨p, hp, rfl⟩ := List.mem_map.mp hx
    have := (h.ks p hp).1
    simp
    omega
  rw [List.length_map] at this
  exact this
theorem Two.add {a : Int} {l : Lev} (h : Two a l) {x c : Int} (hx : x + 1 = a ∨ x + 1 = a + 1) (hc : 0 < c) : Two a (addH l x c) := by
  unfold addH
  split
  · rename_i h0
    refine ⟨nd_addK h.nd, fun q hq => ?_⟩
    rcases keys_addK x c l q hq with ⟨h1, h2⟩ | h1
    · exact ⟨by rw [h1]; exact hx, by omega, h2 hc fun p hp => (h.ks p hp).2.2⟩
    · exact h.ks q h1
  · exact h
theorem half_two {m : String} {A r : Int} (h0 : 0 < r) (h : r + 1 = A ∨ r + 1 = A + 1) : (midF m 0 r + 1 = A / 2 ∨ midF m 0 r + 1 = A / 2 + 1) ∧ (r - 1 - midF m 0 r + 1 = A / 2 ∨ r - 1 - midF m 0 r + 1 = A / 2 + 1) := by
  unfold midF
  split <;> omega
theorem cnt_addH (acc : Lev) (h c : Int) : cntL (addH acc h c) = cntL acc + (if 0 < h then c else 0) := by
  unfold addH
  split
  · exact cnt_addK h c acc
  · omega
theorem tot_addH (acc : Lev) {h : Int} (c : Int) (h0 : 0 ≤ h) : totL (addH acc h c) = totL acc + h * c := by
  unfold addH
  split
  · exact tot_addK h c acc
  · have : h = 0 := by omega
    subst this
    omega
theorem step_two {m : String} {A : Int} : ∀ {l acc : Lev}, (∀ p ∈ l, (p.1 + 1 = A ∨ p.1 + 1 = A + 1) ∧ 0 < p.1 ∧ 0 < p.2) → Two (A / 2) acc → Two (A / 2) (l.foldl (addP m) acc)
  | [], acc, _, h => h
  | p :: l, acc, hp, h => by
    rw [List.foldl_cons]
    obtain ⟨h1, h2, h3⟩ := hp p (List.mem_cons_self ..)
    obtain ⟨k1, k2⟩ := half_two (m := m) h2 h1
    exact step_two (fun q hq => hp q (List.mem_cons_of_mem _ hq)) ((h.add k1 h3).add k2 h3)
theorem step_tot {m : String} : ∀ {l acc : Lev}, (∀ p ∈ l, 0 < p.1) → totL (l.foldl (addP m) acc) = totL acc + totL l - cntL l
  | [], acc, _ => by show totL acc = totL acc + 0 - 0; omega
  | p :: l, acc, hp => by
    rw [List.foldl_cons, step_tot fun q hq => hp q (List.mem_cons_of_mem _ hq)]
    have h0 := hp p (List.mem_cons_self ..)
    obtain ⟨m1, m2⟩ := midF_rng m (lo := 0) (hi := p.1) h0
    have e : totL (addP m acc p) = totL acc + p.1 * p.2 - p.2 := by
      unfold addP
      rw [tot_addH _ _ (by omega), tot_addH _ _ m1]
      have : midF m 0 p.1 * p.2 + (p.1 - 1 - midF m 0 p.1) * p.2 = p.1 * p.2 - p.2 := by
        rw [← Int.add_mul, show midF m 0 p.1 + (p.1 - 1 - midF m 0 p.1) = p.1 - 1 by omega, Int.sub_mul]
        omega
      omega
    rw [e]
    have e1 : totL (p :: l) = p.1 * p.2 + totL l := rfl
    have e2 : cntL (p :: l) = p.2 + cntL l := rfl
    omega
theorem step_cnt {m : String} : ∀ {l acc : Lev}, (∀ p ∈ l, 0 < p.1 ∧ 0 < p.2) → cntL (l.foldl (addP m) acc) ≤ cntL acc + 2 * cntL l ∧ ((∀ p ∈ l, 3 ≤ p.1) → cntL (l.foldl (addP m) acc) = cntL acc + 2 * cntL l)
  | [], acc, _ => by
    have e2 : cntL ([] : Lev) = 0 := rfl
    rw [List.foldl_nil, e2]
    exact ⟨by omega, fun _ => by omega⟩
  | p :: l, acc, hp => by
    rw [List.foldl_cons]
    obtain ⟨h0, h1⟩ := hp p (List.mem_cons_self ..)
    obtain ⟨i1, i2⟩ := step_cnt (m := m) (acc := addP m acc p) fun q hq => hp q (List.mem_cons_of_mem _ hq)
    have e2 : cntL (p :: l) = p.2 + cntL l := rfl
    have e : cntL (addP m acc p) = cntL acc + (if 0 < midF m 0 p.1 then p.2 else 0) + (if 0 < p.1 - 1 - midF m 0 p.1 then p.2 else 0) := by
      unfold addP
      rw [cnt_addH, cnt_addH]
    refine ⟨?_, fun h3 => ?_⟩
    · have : cntL (addP m acc p) ≤ cntL acc + 2 * p.2 := by
        rw [e]
        split <;> split <;> omega
      omega
    · have hr := h3 p (List.mem_cons_self ..)
      rw [i2 fun q hq => h3 q (List.mem_cons_of_mem _ hq), e]
      have k1 : 0 < midF m 0 p.1 := by unfold midF; split <;> omega
      have k2 : 0 < p.1 - 1 - midF m 0 p.1 := by unfold midF; split <;> omega
      rw [if_pos k1, if_pos k2]
      omega
/-- a level -/
structure Lv (S : Int) (d : Nat) (T : Int) (l : Lev) : Prop where
  two : Two ((S + 1) / 2 ^ d) l
  tot : totL l = T
  le : cntL l ≤ 2 ^ d
  full : 2 ≤ (S + 1) / 2 ^ d → cntL l = 2 ^ d
theorem cnt_le_tot : ∀ {l : Lev}, (∀ p ∈ l, 0 < p.1 ∧ 0 < p.2) → cntL l ≤ totL l ∧ 0 ≤ cntL l ∧ ((∀ p ∈ l, p.1 = 1) → totL l = cntL l) ∧ (l ≠ [] → 0 < cntL l)
  | [], _ => ⟨Int.le_refl _, Int.le_refl _, fun _ => rfl, fun h => absurd rfl h⟩
  | p :: l, h => by
    obtain ⟨h0, h1⟩ := h p (List.mem_cons_self ..)
    obtain ⟨i1, i2, i3, -⟩ := cnt_le_tot fun q hq => h q (List.mem_cons_of_mem _ hq)
    have e1 : totL (p :: l) = p.1 * p.2 + totL l := rfl
    have e2 : cntL (p :: l) = p.2 + cntL l := rfl
    have : p.2 ≤ p.1 * p.2 := by
      have := Int.mul_le_mul_of_nonneg_right (show 1 ≤ p.1 by omega) (Int.le_of_lt h1)
      omega
    refine ⟨by omega, by omega, fun hp => ?_, fun _ => by omega⟩
    have := i3 fun q hq => hp q (List.mem_cons_of_mem _ hq)
    have hp1 := hp p (List.mem_cons_self ..)
    rw [e1, e2, hp1]
    omega
def imin2 (a b : Int) : Int := if b < a then b else a
section
variable {S T : Int} {d : Nat} {l : Lev} {m : String}
theorem Lv.pos (h : Lv S d T l) : ∀ p ∈ l, 0 < p.1 ∧ 0 < p.2 := fun p hp => (h.two.ks p hp).2
theorem Lv.cnt (h : Lv S d T l) : cntL l = imin2 T (2 ^ d) := by
  obtain ⟨i1, i2, i3, -⟩ := cnt_le_tot h.pos
  rw [h.tot] at i1 i3
  have hle := h.le
  unfold imin2
  by_cases h2 : 2 ≤ (S + 1) / 2 ^ d
  · have := h.full h2
    split <;> omega
  · have : T = cntL l := i3 fun p hp => by
      have := h.two.ks p hp
      omega
    split <;> omega
theorem Lv.emp (h : Lv S d T l) : l = [] ↔ T ≤ 0 := by
  obtain ⟨i1, i2, i3, i4⟩ := cnt_le_tot h.pos
  rw [h.tot] at i1 i3
  constructor
  · rintro rfl
    have := i3 fun _ z => nomatch z
    rw [this]
    exact Int.le_refl _
  · intro hT
    cases l with
    | nil => rfl
    | cons p l => have := i4 (by simp); omega
theorem pow_pos2 (d : Nat) : (0 : Int) < 2 ^ d := Int.pow_pos (by decide)
theorem pow2_add (i : Nat) : ∀ k : Nat, (2 : Int) ^ i ≤ 2 ^ (i + k)
  | 0 => Int.le_refl _
  | k + 1 => by
    have := pow2_add i k
    have := pow_pos2 (i + k)
    rw [show i + (k + 1) = i + k + 1 by omega, Int.pow_succ]
    omega
theorem pow2_le {i j : Nat} (h : i ≤ j) : (2 : Int) ^ i ≤ 2 ^ j := by
  have := pow2_add i (j - i)
  rw [show i + (j - i) = j by omega] at this
  exact this
theorem Lv.next (h : Lv S d T l) : Lv S (d + 1) (T - cntL l) (stepL m l) := by
  have e : (S + 1) / 2 ^ (d + 1) = (S + 1) / 2 ^ d / 2 := by
    rw [Int.pow_succ, Int.ediv_ediv_of_nonneg]
    exact Int.le_of_lt (pow_pos2 d)
  have hc := step_cnt (m := m) (acc := []) h.pos
  have e0 : cntL ([] : Lev) = 0 := rfl
  rw [e0] at hc
  refine ⟨by rw [e]; exact step_two h.two.ks (Two.nil _), ?_, ?_, fun h2 => ?_⟩
  · have := step_tot (m := m) (acc := []) fun p hp => (h.pos p hp).1
    have e1 : totL ([] : Lev) = 0 := rfl
    rw [e1, h.tot] at this
    unfold stepL
    omega
  · have := h.le
    rw [Int.pow_succ]
    unfold stepL
    omega
  · rw [e] at h2
    have h3 := hc.2 fun p hp => by have := h.two.ks p hp; omega
    have := h.full (by omega)
    rw [Int.pow_succ]
    unfold stepL
    omega
theorem Lv.first (h : 0 < S) : Lv S 0 S [(S, 1)] := ⟨⟨by simp, fun p hp => by
  have : p = (S, 1) := List.mem_singleton.mp hp
  subst this
  simp
  omega⟩, by show S * 1 + 0 = S; omega, by show (1 : Int) + 0 ≤ 1; omega, fun _ => by show (1 : Int) + 0 = 1; omega⟩
theorem Lv.depth (h : Lv S d T l) (h0 : l ≠ []) : (2 : Int) ^ d ≤ S + 1 := by
  cases l with
  | nil => exact absurd rfl h0
  | cons p l =>
    have hp := h.two.ks p (List.mem_cons_self ..)
    have : 1 ≤ (S + 1) / 2 ^ d := by omega
    have := (Int.le_ediv_iff_mul_le (pow_pos2 d)).mp this
    omega
end
/-! ### how many places a depth has -/
def dueF : Nat → Int → Int → List Int
  | 0, _, _ => []
  | n + 1, left, full => if 0 < left then imin2 left full :: dueF n (left - imin2 left full) (2 * full) else []
def dueL (S : Int) : List Int := dueF 64 S 1
theorem cnts_due {m : String} {S : Int} : ∀ (n d : Nat) (T : Int) (l : Lev), Lv S d T l → (levF m n l).map cntL = dueF n T (2 ^ d)
  | 0, _, _, _, _ => rfl
  | n + 1, d, T, l, h => by
    unfold levF dueF
    by_cases h0 : l = []
    · rw [if_pos h0, if_neg (by have := h.emp.mp h0; omega)]
      rfl
    · rw [if_neg h0, if_pos (by have : ¬ T ≤ 0 := fun z => h0 (h.emp.mpr z); omega), List.map_cons, cnts_due n (d + 1) _ _ h.next, h.cnt, Int.pow_succ, Int.mul_comm (2 ^ d) 2]
theorem cnts_dueL (m : String) {S : Int} (h : 0 < S) : (levR m S).map cntL = dueL S := cnts_due 64 0 S _ (Lv.first h)
theorem levF_fuel {m : String} {S : Int} : ∀ (n n' d : Nat) (T : Int) (l : Lev), Lv S d T l → S + 1 < 2 ^ (d + n) → S + 1 < 2 ^ (d + n') → levF m n l = levF m n' l
  | 0, 0, _, _, _, _, _, _ => rfl
  | 0, n' + 1, d, T, l, h, h1, h2 => by
    by_cases h0 : l = []
    · unfold levF; rw [if_pos h0]
    · have := h.depth h0
      simp at h1
      omega
  | n + 1, 0, d, T, l, h, h1, h2 => by
    by_cases h0 : l = []
    · unfold levF; rw [if_pos h0]
    · have := h.depth h0
      simp at h2
      omega
  | n + 1, n' + 1, d, T, l, h, h1, h2 => by
    unfold levF
    by_cases h0 : l = []
    · rw [if_pos h0, if_pos h0]
    · rw [if_neg h0, if_neg h0, levF_fuel n n' (d + 1) _ _ h.next (by rw [show d + 1 + n = d + (n + 1) by omega]; exact h1) (by rw [show d + 1 + n' = d + (n' + 1) by omega]; exact h2)]
/-- in closed form -/
theorem due_get : ∀ (n d : Nat) (S left : Int), left = S + 1 - 2 ^ d → S + 1 < 2 ^ (d + n) → ∀ i, (dueF n left (2 ^ d))[i]? = if (2 : Int) ^ (d + i) ≤ S then some (imin2 (S + 1 - 2 ^ (d + i)) (2 ^ (d + i))) else none
  | 0, d, S, left, h, h1, i => by
    have : ¬ (2 : Int) ^ (d + i) ≤ S := fun z => by
      have h2 : (2 : Int) ^ d ≤ 2 ^ (d + i) := pow2_le (by omega)
      simp at h1
      omega
    rw [if_neg this]
    rfl
  | n + 1, d, S, left, h, h1, i => by
    unfold dueF
    by_cases h0 : 0 < left
    · rw [if_pos h0]
      cases i with
      | zero =>
        rw [List.getElem?_cons_zero, Nat.add_zero, if_pos (by omega), h]
      | succ i =>
        rw [List.getElem?_cons_succ]
        have hp : (2 : Int) * 2 ^ d = 2 ^ (d + 1) := by rw [Int.pow_succ, Int.mul_comm]
        by_cases hm : 2 ^ d < left
        · have e : imin2 left (2 ^ d) = 2 ^ d := if_pos hm
          rw [e, hp, due_get n (d + 1) S _ (by rw [← hp]; omega) (by rw [show d + 1 + n = d + (n + 1) by omega]; exact h1) i, show d + 1 + i = d + (i + 1) by omega]
        · have e : imin2 left (2 ^ d) = left := if_neg hm
          have h2 : (2 : Int) ^ (d + 1) ≤ 2 ^ (d + (i + 1)) := pow2_le (by omega)
          rw [e, Int.sub_self, if_neg (by omega)]
          cases n <;> rfl
    · rw [if_neg h0, if_neg]
      · rfl
      · have h2 : (2 : Int) ^ d ≤ 2 ^ (d + i) := pow2_le (by omega)
        omega
theorem dueL_get {S : Int} (h1 : S < 2 ^ 60) (i : Nat) : (dueL S)[i]? = if (2 : Int) ^ i ≤ S then some (imin2 (S + 1 - 2 ^ i) (2 ^ i)) else none := by
  have := due_get 64 0 S S (by omega) (by omega) i
  rw [Nat.zero_add] at this
  exact this

-- needs: levmath wayok
/-! ### levels_of -/
def levD (l : Lev) : D := .dct false (encD D.int D.int l)
theorem keyI (x : Int) : keyD false (.int x) = true := rfl
theorem levels_of_ok (n : Nat) {m e g a : String} {S : Int} (h0 : 0 < S) (h2 : S ≤ 1000000000000000) (st : Sto) :
    FF md.Δ md.Γ (n + 2) i_levels_of [wayD m e g a, .int S] st = .ok (.lst ((levR m S).map levD), true) st := by
  refine eq_of_Ok ?_
  refine go_levels_of ?_
  have hd : dispD false [.int S, .int 1] = some (levD [(S, 1)]) := rfl
  (repeat (first | with_reducible refine w_assoc ?_ | with_reducible refine w_skip ?_ | with_reducible refine w_pass ?_ | with_reducible refine w_end ?_ | with_reducible refine w_brk ?_ | with_reducible refine w_cnt ?_ | (with_reducible refine w_asg ?_; refine Ok_hide ?_; intro Q hQ; simp -implicitDefEqProofs [Ev.ite_hid Q, x_else, getputw, LIM, -List.map_map, -Bool.if_false_right, -Bool.if_false_left, -Bool.if_true_left, -Bool.if_true_right, hd]; refine unhide hQ ?_; clear hQ; clear Q) | (with_reducible refine w_ret ?_; refine Ok_hide ?_; intro Q hQ; simp -implicitDefEqProofs [Ev.ite_hid Q, x_else, getputw, LIM, -List.map_map, -Bool.if_false_right, -Bool.if_false_left, -Bool.if_true_left, -Bool.if_true_right, hd]; refine unhide hQ ?_; clear hQ; clear Q) | (with_reducible refine w_app ?_; refine Ok_hide ?_; intro Q hQ; simp -implicitDefEqProofs [Ev.ite_hid Q, x_else, getputw, LIM, -List.map_map, -Bool.if_false_right, -Bool.if_false_left, -Bool.if_true_left, -Bool.if_true_right, hd]; refine unhide hQ ?_; clear hQ; clear Q) | (with_reducible refine w_pasg ?_; refine Ok_hide ?_; intro Q hQ; simp -implicitDefEqProofs [Ev.ite_hid Q, x_else, getputw, LIM, -List.map_map, -Bool.if_false_right, -Bool.if_false_left, -Bool.if_true_left, -Bool.if_true_right, hd]; refine unhide hQ ?_; clear hQ; clear Q) | (with_reducible refine w_tasg ?_; refine Ok_hide ?_; intro Q hQ; simp -implicitDefEqProofs [Ev.ite_hid Q, x_else, getputw, LIM, -List.map_map, -Bool.if_false_right, -Bool.if_false_left, -Bool.if_true_left, -Bool.if_true_right, hd]; refine unhide hQ ?_; clear hQ; clear Q) | (with_reducible refine w_asgo ?_; refine Ok_hide ?_; intro Q hQ; simp -implicitDefEqProofs [Ev.ite_hid Q, x_else, getputw, LIM, -List.map_map, -Bool.if_false_right, -Bool.if_false_left, -Bool.if_true_left, -Bool.if_true_right, hd]; refine unhide hQ ?_; clear hQ; clear Q) | (with_reducible refine w_fz ?_; refine Ok_hide ?_; intro Q hQ; simp -implicitDefEqProofs [Ev.ite_hid Q, x_else, getputw, LIM, -List.map_map, -Bool.if_false_right, -Bool.if_false_left, -Bool.if_true_left, -Bool.if_true_right, hd]; refine unhide hQ ?_; clear hQ; clear Q) | (with_reducible refine w_setix ?_; refine Ok_hide ?_; intro Q hQ; simp -implicitDefEqProofs [Ev.ite_hid Q, x_else, getputw, LIM, -List.map_map, -Bool.if_false_right, -Bool.if_false_left, -Bool.if_true_left, -Bool.if_true_right, hd]; refine unhide hQ ?_; clear hQ; clear Q) | (with_reducible refine w_exp ?_; refine Ok_hide ?_; intro Q hQ; simp -implicitDefEqProofs [Ev.ite_hid Q, x_else, getputw, LIM, -List.map_map, -Bool.if_false_right, -Bool.if_false_left, -Bool.if_true_left, -Bool.if_true_right, hd]; refine unhide hQ ?_; clear hQ; clear Q) | (with_reducible refine w_for ?_; refine Ok_hide ?_; intro Q hQ; simp -implicitDefEqProofs [Ev.ite_hid Q, x_else, getputw, LIM, -List.map_map, -Bool.if_false_right, -Bool.if_false_left, -Bool.if_true_left, -Bool.if_true_right, hd]; refine unhide hQ ?_; clear hQ; clear Q) | (with_reducible refine w_ite ?_; refine Ok_hide ?_; intro Q hQ; simp -implicitDefEqProofs [Ev.ite_hid Q, x_else, getputw, LIM, -List.map_map, -Bool.if_false_right, -Bool.if_false_left, -Bool.if_true_left, -Bool.if_true_right, hd]; refine unhide hQ ?_; clear hQ; clear Q; first | refine c2_t ?_ | refine c2_f ?_) | (with_reducible refine w_shr (by simp [getputw]; rfl) ?_)))
  refine w_whl (fun k ρ st' => st' = st ∧ get ρ 0 = .v (wayD m e g a) ∧ ∃ (l : Lev) (done : List Lev) (d : Nat) (T : Int), get ρ 3 = .v (levD l) ∧ get ρ 2 = .own (.lst (done.map levD)) ∧ Lv S d T l ∧ done.length = d ∧ d + k = 60 ∧ done ++ levF m (k + 4) l = levR m S) 60
    ⟨rfl, by simp -implicitDefEqProofs [getputw], [(S, 1)], [], 0, S, by simp -implicitDefEqProofs [getputw], by simp -implicitDefEqProofs [getputw], Lv.first h0, rfl, rfl, rfl⟩ (by show 60 < 1000000; decide) ?_
  rintro k ρ st' ⟨rfl, g0, l, done, d, T, g3, g2, hl, hdl, hdk, hr⟩
  have hem : eqD (levD l) (.dct false []) = some (decide (l = [])) := by
    unfold levD
    rw [eqD_emp]
    cases l <;> rfl
  by_cases hn : l = []
  · subst hn
    (refine Ok_hide ?_; intro Q hQ; simp -implicitDefEqProofs [Ev.ite_hid Q, x_else, getputw, LIM, -List.map_map, -Bool.if_false_right, -Bool.if_false_left, -Bool.if_true_left, -Bool.if_true_right, g3, hem]; refine unhide hQ ?_; clear hQ; clear Q)
    refine c2_f ?_
    (repeat (first | with_reducible refine w_assoc ?_ | with_reducible refine w_skip ?_ | with_reducible refine w_pass ?_ | with_reducible refine w_end ?_ | with_reducible refine w_brk ?_ | with_reducible refine w_cnt ?_ | (with_reducible refine w_asg ?_; refine Ok_hide ?_; intro Q hQ; simp -implicitDefEqProofs [Ev.ite_hid Q, x_else, getputw, LIM, -List.map_map, -Bool.if_false_right, -Bool.if_false_left, -Bool.if_true_left, -Bool.if_true_right, g2]; refine unhide hQ ?_; clear hQ; clear Q) | (with_reducible refine w_ret ?_; refine Ok_hide ?_; intro Q hQ; simp -implicitDefEqProofs [Ev.ite_hid Q, x_else, getputw, LIM, -List.map_map, -Bool.if_false_right, -Bool.if_false_left, -Bool.if_true_left, -Bool.if_true_right, g2]; refine unhide hQ ?_; clear hQ; clear Q) | (with_reducible refine w_app ?_; refine Ok_hide ?_; intro Q hQ; simp -implicitDefEqProofs [Ev.ite_hid Q, x_else, getputw, LIM, -List.map_map, -Bool.if_false_right, -Bool.if_false_left, -Bool.if_true_left, -Bool.if_true_right, g2]; refine unhide hQ ?_; clear hQ; clear Q) | (with_reducible refine w_pasg ?_; refine Ok_hide ?_; intro Q hQ; simp -implicitDefEqProofs [Ev.ite_hid Q, x_else, getputw, LIM, -List.map_map, -Bool.if_false_right, -Bool.if_false_left, -Bool.if_true_left, -Bool.if_true_right, g2]; refine unhide hQ ?_; clear hQ; clear Q) | (with_reducible refine w_tasg ?_; refine Ok_hide ?_; intro Q hQ; simp -implicitDefEqProofs [Ev.ite_hid Q, x_else, getputw, LIM, -List.map_map, -Bool.if_false_right, -Bool.if_false_left, -Bool.if_true_left, -Bool.if_true_right, g2]; refine unhide hQ ?_; clear hQ; clear Q) | (with_reducible refine w_asgo ?_; refine Ok_hide ?_; intro Q hQ; simp -implicitDefEqProofs [Ev.ite_hid Q, x_else, getputw, LIM, -List.map_map, -Bool.if_false_right, -Bool.if_false_left, -Bool.if_true_left, -Bool.if_true_right, g2]; refine unhide hQ ?_; clear hQ; clear Q) | (with_reducible refine w_fz ?_; refine Ok_hide ?_; intro Q hQ; simp -implicitDefEqProofs [Ev.ite_hid Q, x_else, getputw, LIM, -List.map_map, -Bool.if_false_right, -Bool.if_false_left, -Bool.if_true_left, -Bool.if_true_right, g2]; refine unhide hQ ?_; clear hQ; clear Q) | (with_reducible refine w_setix ?_; refine Ok_hide ?_; intro Q hQ; simp -implicitDefEqProofs [Ev.ite_hid Q, x_else, getputw, LIM, -List.map_map, -Bool.if_false_right, -Bool.if_false_left, -Bool.if_true_left, -Bool.if_true_right, g2]; refine unhide hQ ?_; clear hQ; clear Q) | (with_reducible refine w_exp ?_; refine Ok_hide ?_; intro Q hQ; simp -implicitDefEqProofs [Ev.ite_hid Q, x_else, getputw, LIM, -List.map_map, -Bool.if_false_right, -Bool.if_false_left, -Bool.if_true_left, -Bool.if_true_right, g2]; refine unhide hQ ?_; clear hQ; clear Q) | (with_reducible refine w_for ?_; refine Ok_hide ?_; intro Q hQ; simp -implicitDefEqProofs [Ev.ite_hid Q, x_else, getputw, LIM, -List.map_map, -Bool.if_false_right, -Bool.if_false_left, -Bool.if_true_left, -Bool.if_true_right, g2]; refine unhide hQ ?_; clear hQ; clear Q) | (with_reducible refine w_ite ?_; refine Ok_hide ?_; intro Q hQ; simp -implicitDefEqProofs [Ev.ite_hid Q, x_else, getputw, LIM, -List.map_map, -Bool.if_false_right, -Bool.if_false_left, -Bool.if_true_left, -Bool.if_true_right, g2]; refine unhide hQ ?_; clear hQ; clear Q; first | refine c2_t ?_ | refine c2_f ?_) | (with_reducible refine w_shr (by simp [getputw]; rfl) ?_)))
    have : levF m (k + 4) [] = [] := by unfold levF; exact if_pos rfl
    rw [this, List.append_nil] at hr
    rw [← hr]
    exact ⟨rfl, rfl⟩
  · (refine Ok_hide ?_; intro Q hQ; simp -implicitDefEqProofs [Ev.ite_hid Q, x_else, getputw, LIM, -List.map_map, -Bool.if_false_right, -Bool.if_false_left, -Bool.if_true_left, -Bool.if_true_right, g3, hem, hn]; refine unhide hQ ?_; clear hQ; clear Q)
    refine c2_t ?_
    have hdep := hl.depth hn
    cases k with
    | zero =>
      have : d = 60 := by omega
      subst this
      omega
    | succ k =>
      have hf : levF m (k + 1 + 4) l = l :: levF m (k + 4) (stepL m l) := by
        show (if l = [] then [] else l :: levF m (k + 4) (stepL m l)) = _
        rw [if_neg hn]
      rw [hf] at hr
      have hll : (done.map levD).length < LIM := by rw [List.length_map, hdl]; show d < 16777216; omega
      ((repeat (first | with_reducible refine w_assoc ?_ | with_reducible refine w_skip ?_ | with_reducible refine w_pass ?_)); with_reducible refine w_app ?_; refine Ok_hide ?_; intro Q hQ; simp -implicitDefEqProofs [Ev.ite_hid Q, x_else, getputw, LIM, -List.map_map, -Bool.if_false_right, -Bool.if_false_left, -Bool.if_true_left, -Bool.if_true_right, obAt, obPut, g2, g3, hdl, show d < 16777216 by omega])
      (refine unhide hQ ?_; clear hQ; clear Q)
      (repeat (first | with_reducible refine w_assoc ?_ | with_reducible refine w_skip ?_ | with_reducible refine w_pass ?_ | with_reducible refine w_end ?_ | with_reducible refine w_brk ?_ | with_reducible refine w_cnt ?_ | (with_reducible refine w_asg ?_; refine Ok_hide ?_; intro Q hQ; simp -implicitDefEqProofs [Ev.ite_hid Q, x_else, getputw, LIM, -List.map_map, -Bool.if_false_right, -Bool.if_false_left, -Bool.if_true_left, -Bool.if_true_right]; refine unhide hQ ?_; clear hQ; clear Q) | (with_reducible refine w_ret ?_; refine Ok_hide ?_; intro Q hQ; simp -implicitDefEqProofs [Ev.ite_hid Q, x_else, getputw, LIM, -List.map_map, -Bool.if_false_right, -Bool.if_false_left, -Bool.if_true_left, -Bool.if_true_right]; refine unhide hQ ?_; clear hQ; clear Q) | (with_reducible refine w_app ?_; refine Ok_hide ?_; intro Q hQ; simp -implicitDefEqProofs [Ev.ite_hid Q, x_else, getputw, LIM, -List.map_map, -Bool.if_false_right, -Bool.if_false_left, -Bool.if_true_left, -Bool.if_true_right]; refine unhide hQ ?_; clear hQ; clear Q) | (with_reducible refine w_pasg ?_; refine Ok_hide ?_; intro Q hQ; simp -implicitDefEqProofs [Ev.ite_hid Q, x_else, getputw, LIM, -List.map_map, -Bool.if_false_right, -Bool.if_false_left, -Bool.if_true_left, -Bool.if_true_right]; refine unhide hQ ?_; clear hQ; clear Q) | (with_reducible refine w_tasg ?_; refine Ok_hide ?_; intro Q hQ; simp -implicitDefEqProofs [Ev.ite_hid Q, x_else, getputw, LIM, -List.map_map, -Bool.if_false_right, -Bool.if_false_left, -Bool.if_true_left, -Bool.if_true_right]; refine unhide hQ ?_; clear hQ; clear Q) | (with_reducible refine w_asgo ?_; refine Ok_hide ?_; intro Q hQ; simp -implicitDefEqProofs [Ev.ite_hid Q, x_else, getputw, LIM, -List.map_map, -Bool.if_false_right, -Bool.if_false_left, -Bool.if_true_left, -Bool.if_true_right]; refine unhide hQ ?_; clear hQ; clear Q) | (with_reducible refine w_fz ?_; refine Ok_hide ?_; intro Q hQ; simp -implicitDefEqProofs [Ev.ite_hid Q, x_else, getputw, LIM, -List.map_map, -Bool.if_false_right, -Bool.if_false_left, -Bool.if_true_left, -Bool.if_true_right]; refine unhide hQ ?_; clear hQ; clear Q) | (with_reducible refine w_setix ?_; refine Ok_hide ?_; intro Q hQ; simp -implicitDefEqProofs [Ev.ite_hid Q, x_else, getputw, LIM, -List.map_map, -Bool.if_false_right, -Bool.if_false_left, -Bool.if_true_left, -Bool.if_true_right]; refine unhide hQ ?_; clear hQ; clear Q) | (with_reducible refine w_exp ?_; refine Ok_hide ?_; intro Q hQ; simp -implicitDefEqProofs [Ev.ite_hid Q, x_else, getputw, LIM, -List.map_map, -Bool.if_false_right, -Bool.if_false_left, -Bool.if_true_left, -Bool.if_true_right]; refine unhide hQ ?_; clear hQ; clear Q) | (with_reducible refine w_for ?_; refine Ok_hide ?_; intro Q hQ; simp -implicitDefEqProofs [Ev.ite_hid Q, x_else, getputw, LIM, -List.map_map, -Bool.if_false_right, -Bool.if_false_left, -Bool.if_true_left, -Bool.if_true_right]; refine unhide hQ ?_; clear hQ; clear Q) | (with_reducible refine w_ite ?_; refine Ok_hide ?_; intro Q hQ; simp -implicitDefEqProofs [Ev.ite_hid Q, x_else, getputw, LIM, -List.map_map, -Bool.if_false_right, -Bool.if_false_left, -Bool.if_true_left, -Bool.if_true_right]; refine unhide hQ ?_; clear hQ; clear Q; first | refine c2_t ?_ | refine c2_f ?_) | (with_reducible refine w_shr (by simp [getputw]; rfl) ?_)))
      have hit : (encD D.int D.int l).map (fun p => D.tup [p.1, p.2]) = l.map fun p => .tup [.int p.1, .int p.2] := by
        unfold encD
        rw [List.map_map]
        rfl
      with_reducible refine w_for ?_
      (refine Ok_hide ?_; intro Q hQ; simp -implicitDefEqProofs [Ev.ite_hid Q, x_else, getputw, LIM, -List.map_map, -Bool.if_false_right, -Bool.if_false_left, -Bool.if_true_left, -Bool.if_true_right, g3, levD, hit]; refine unhide hQ ?_; clear hQ; clear Q)
      refine Forx.map (fun j ρ' st2 => st2 = st' ∧ get ρ' 0 = .v (wayD m e g a) ∧ get ρ' 3 = .v (levD l) ∧ get ρ' 2 = .own (.lst ((done ++ [l]).map levD)) ∧ ∃ acc : Lev, get ρ' 4 = .own (.dct false (encD D.int D.int acc)) ∧ Two ((S + 1) / 2 ^ d / 2) acc ∧ (l.drop j).foldl (addP m) acc = stepL m l)
        ⟨rfl, by simp -implicitDefEqProofs [getputw, g0], by simp -implicitDefEqProofs [getputw, g3, levD], by simp -implicitDefEqProofs [getputw], [], by simp -implicitDefEqProofs [getputw, encD], Two.nil _, rfl⟩ ?_ ?_
      · rintro j p ρ2 st2 hj hp ⟨rfl, f0, f3, f2, acc, f4, ht, hfold⟩
        obtain ⟨x, c⟩ := p
        have hks := hl.two.ks (x, c) hp
        obtain ⟨q1, q2⟩ := half_two (m := m) hks.2.1 hks.1
        have hx : 0 < x := hks.2.1
        have hc : 0 < c := hks.2.2
        have hjl : j < l.length := (List.getElem?_eq_some_iff.mp hj).1
        rw [List.drop_eq_getElem_cons hjl, (List.getElem?_eq_some_iff.mp hj).2, List.foldl_cons] at hfold
        refine ⟨_, rfl, ?_⟩
        have hmo := fun n st => middle_of_ok n m e g a 0 x st
        have ht1 := ht.add q1 hc
        have ht2 := ht1.add q2 hc
        have one : ∀ (h : Int) (acc : Lev) (ρ3 : Rho) (P : Fl × Rho → Sto → Prop), Two ((S + 1) / 2 ^ d / 2) acc → get ρ3 8 = .v (.int h) → get ρ3 6 = .v (.int c) → get ρ3 4 = .own (.dct false (encD D.int D.int acc)) →
            (∀ ρ4, get ρ4 4 = .own (.dct false (encD D.int D.int (addH acc h c))) → (∀ i, i ≠ 4 → get ρ4 i = get ρ3 i) → P (.nx, ρ4) st2) →
            Ok (evS (FF md.Δ md.Γ (n + 1)) md.Γ (.seq (.ite (.cmp .gt (.var 8) (.cint 0)) (.seq (.setix 4 (.var 8) (.bin .add (.dget 4 (.var 8) (.cint 0)) (.var 6))) .skip) .skip) .skip) ρ3 st2) P := by
          intro h acc ρ3 P ht k8 k6 k4 hP
          by_cases hh : 0 < h
          · have hadd : addH acc h c = addK h c acc := if_pos hh
            have hget : evE (FF md.Δ md.Γ (n + 1)) md.Γ (.dget 4 (.var 8) (.cint 0)) ρ3 st2 = .ok (.int ((alook h acc).getD 0)) st2 := by
              show (match obV ρ3 st2 4 with
                | some (.dct _ _) => (evE (FF md.Δ md.Γ (n + 1)) md.Γ (.var 8) ρ3 st2).bind fun y st => (evE (FF md.Δ md.Γ (n + 1)) md.Γ (.cint 0) ρ3 st).bind fun z st => (match obV ρ3 st 4 with
                  | some (.dct kd kvs) => if keyD kd y then .ok ((dlook y kvs).getD z) st else .bad
                  | _ => .bad)
                | _ => .bad) = _
              have ho : obV ρ3 st2 4 = some (.dct false (encD D.int D.int acc)) := by unfold obV; rw [k4]
              rw [ho]
              simp -implicitDefEqProofs [k8, ho, keyI]
              rw [dlook_enc en_int (by decide)]
              cases alook h acc <;> rfl
            have hset := setD_enc (vf := D.int) (kd := false) en_int (by decide) (x := h) (v := (alook h acc).getD 0 + c) (m := acc) rfl (by have := ht.len; omega)
            rw [put_addK ht.nd, ← hadd] at hset
            (repeat (first | with_reducible refine w_assoc ?_ | with_reducible refine w_skip ?_ | with_reducible refine w_pass ?_ | with_reducible refine w_end ?_ | with_reducible refine w_brk ?_ | with_reducible refine w_cnt ?_ | (with_reducible refine w_asg ?_; refine Ok_hide ?_; intro Q hQ; simp -implicitDefEqProofs [Ev.ite_hid Q, x_else, getputw, LIM, -List.map_map, -Bool.if_false_right, -Bool.if_false_left, -Bool.if_true_left, -Bool.if_true_right, k8, k6, hh]; refine unhide hQ ?_; clear hQ; clear Q) | (with_reducible refine w_ret ?_; refine Ok_hide ?_; intro Q hQ; simp -implicitDefEqProofs [Ev.ite_hid Q, x_else, getputw, LIM, -List.map_map, -Bool.if_false_right, -Bool.if_false_left, -Bool.if_true_left, -Bool.if_true_right, k8, k6, hh]; refine unhide hQ ?_; clear hQ; clear Q) | (with_reducible refine w_app ?_; refine Ok_hide ?_; intro Q hQ; simp -implicitDefEqProofs [Ev.ite_hid Q, x_else, getputw, LIM, -List.map_map, -Bool.if_false_right, -Bool.if_false_left, -Bool.if_true_left, -Bool.if_true_right, k8, k6, hh]; refine unhide hQ ?_; clear hQ; clear Q) | (with_reducible refine w_pasg ?_; refine Ok_hide ?_; intro Q hQ; simp -implicitDefEqProofs [Ev.ite_hid Q, x_else, getputw, LIM, -List.map_map, -Bool.if_false_right, -Bool.if_false_left, -Bool.if_true_left, -Bool.if_true_right, k8, k6, hh]; refine unhide hQ ?_; clear hQ; clear Q) | (with_reducible refine w_tasg ?_; refine Ok_hide ?_; intro Q hQ; simp -implicitDefEqProofs [Ev.ite_hid Q, x_else, getputw, LIM, -List.map_map, -Bool.if_false_right, -Bool.if_false_left, -Bool.if_true_left, -Bool.if_true_right, k8, k6, hh]; refine unhide hQ ?_; clear hQ; clear Q) | (with_reducible refine w_asgo ?_; refine Ok_hide ?_; intro Q hQ; simp -implicitDefEqProofs [Ev.ite_hid Q, x_else, getputw, LIM, -List.map_map, -Bool.if_false_right, -Bool.if_false_left, -Bool.if_true_left, -Bool.if_true_right, k8, k6, hh]; refine unhide hQ ?_; clear hQ; clear Q) | (with_reducible refine w_fz ?_; refine Ok_hide ?_; intro Q hQ; simp -implicitDefEqProofs [Ev.ite_hid Q, x_else, getputw, LIM, -List.map_map, -Bool.if_false_right, -Bool.if_false_left, -Bool.if_true_left, -Bool.if_true_right, k8, k6, hh]; refine unhide hQ ?_; clear hQ; clear Q) | (with_reducible refine w_setix ?_; refine Ok_hide ?_; intro Q hQ; simp -implicitDefEqProofs [Ev.ite_hid Q, x_else, getputw, LIM, -List.map_map, -Bool.if_false_right, -Bool.if_false_left, -Bool.if_true_left, -Bool.if_true_right, k8, k6, hh]; refine unhide hQ ?_; clear hQ; clear Q) | (with_reducible refine w_exp ?_; refine Ok_hide ?_; intro Q hQ; simp -implicitDefEqProofs [Ev.ite_hid Q, x_else, getputw, LIM, -List.map_map, -Bool.if_false_right, -Bool.if_false_left, -Bool.if_true_left, -Bool.if_true_right, k8, k6, hh]; refine unhide hQ ?_; clear hQ; clear Q) | (with_reducible refine w_for ?_; refine Ok_hide ?_; intro Q hQ; simp -implicitDefEqProofs [Ev.ite_hid Q, x_else, getputw, LIM, -List.map_map, -Bool.if_false_right, -Bool.if_false_left, -Bool.if_true_left, -Bool.if_true_right, k8, k6, hh]; refine unhide hQ ?_; clear hQ; clear Q) | (with_reducible refine w_ite ?_; refine Ok_hide ?_; intro Q hQ; simp -implicitDefEqProofs [Ev.ite_hid Q, x_else, getputw, LIM, -List.map_map, -Bool.if_false_right, -Bool.if_false_left, -Bool.if_true_left, -Bool.if_true_right, k8, k6, hh]; refine unhide hQ ?_; clear hQ; clear Q; first | refine c2_t ?_ | refine c2_f ?_) | (with_reducible refine w_shr (by simp [getputw]; rfl) ?_)))
            ((repeat (first | with_reducible refine w_assoc ?_ | with_reducible refine w_skip ?_ | with_reducible refine w_pass ?_)); with_reducible refine w_setix ?_; refine Ok_hide ?_; intro Q hQ; simp -implicitDefEqProofs [Ev.ite_hid Q, x_else, getputw, LIM, -List.map_map, -Bool.if_false_right, -Bool.if_false_left, -Bool.if_true_left, -Bool.if_true_right, hget, k8, k6, obAt, obPut, k4, hset])
            (refine unhide hQ ?_; clear hQ; clear Q)
            (repeat (first | with_reducible refine w_assoc ?_ | with_reducible refine w_skip ?_ | with_reducible refine w_pass ?_ | with_reducible refine w_end ?_ | with_reducible refine w_brk ?_ | with_reducible refine w_cnt ?_ | (with_reducible refine w_asg ?_; refine Ok_hide ?_; intro Q hQ; simp -implicitDefEqProofs [Ev.ite_hid Q, x_else, getputw, LIM, -List.map_map, -Bool.if_false_right, -Bool.if_false_left, -Bool.if_true_left, -Bool.if_true_right]; refine unhide hQ ?_; clear hQ; clear Q) | (with_reducible refine w_ret ?_; refine Ok_hide ?_; intro Q hQ; simp -implicitDefEqProofs [Ev.ite_hid Q, x_else, getputw, LIM, -List.map_map, -Bool.if_false_right, -Bool.if_false_left, -Bool.if_true_left, -Bool.if_true_right]; refine unhide hQ ?_; clear hQ; clear Q) | (with_reducible refine w_app ?_; refine Ok_hide ?_; intro Q hQ; simp -implicitDefEqProofs [Ev.ite_hid Q, x_else, getputw, LIM, -List.map_map, -Bool.if_false_right, -Bool.if_false_left, -Bool.if_true_left, -Bool.if_true_right]; refine unhide hQ ?_; clear hQ; clear Q) | (with_reducible refine w_pasg ?_; refine Ok_hide ?_; intro Q hQ; simp -implicitDefEqProofs [Ev.ite_hid Q, x_else, getputw, LIM, -List.map_map, -Bool.if_false_right, -Bool.if_false_left, -Bool.if_true_left, -Bool.if_true_right]; refine unhide hQ ?_; clear hQ; clear Q) | (with_reducible refine w_tasg ?_; refine Ok_hide ?_; intro Q hQ; simp -implicitDefEqProofs [Ev.ite_hid Q, x_else, getputw, LIM, -List.map_map, -Bool.if_false_right, -Bool.if_false_left, -Bool.if_true_left, -Bool.if_true_right]; refine unhide hQ ?_; clear hQ; clear Q) | (with_reducible refine w_asgo ?_; refine Ok_hide ?_; intro Q hQ; simp -implicitDefEqProofs [Ev.ite_hid Q, x_else, getputw, LIM, -List.map_map, -Bool.if_false_right, -Bool.if_false_left, -Bool.if_true_left, -Bool.if_true_right]; refine unhide hQ ?_; clear hQ; clear Q) | (with_reducible refine w_fz ?_; refine Ok_hide ?_; intro Q hQ; simp -implicitDefEqProofs [Ev.ite_hid Q, x_else, getputw, LIM, -List.map_map, -Bool.if_false_right, -Bool.if_false_left, -Bool.if_true_left, -Bool.if_true_right]; refine unhide hQ ?_; clear hQ; clear Q) | (with_reducible refine w_setix ?_; refine Ok_hide ?_; intro Q hQ; simp -implicitDefEqProofs [Ev.ite_hid Q, x_else, getputw, LIM, -List.map_map, -Bool.if_false_right, -Bool.if_false_left, -Bool.if_true_left, -Bool.if_true_right]; refine unhide hQ ?_; clear hQ; clear Q) | (with_reducible refine w_exp ?_; refine Ok_hide ?_; intro Q hQ; simp -implicitDefEqProofs [Ev.ite_hid Q, x_else, getputw, LIM, -List.map_map, -Bool.if_false_right, -Bool.if_false_left, -Bool.if_true_left, -Bool.if_true_right]; refine unhide hQ ?_; clear hQ; clear Q) | (with_reducible refine w_for ?_; refine Ok_hide ?_; intro Q hQ; simp -implicitDefEqProofs [Ev.ite_hid Q, x_else, getputw, LIM, -List.map_map, -Bool.if_false_right, -Bool.if_false_left, -Bool.if_true_left, -Bool.if_true_right]; refine unhide hQ ?_; clear hQ; clear Q) | (with_reducible refine w_ite ?_; refine Ok_hide ?_; intro Q hQ; simp -implicitDefEqProofs [Ev.ite_hid Q, x_else, getputw, LIM, -List.map_map, -Bool.if_false_right, -Bool.if_false_left, -Bool.if_true_left, -Bool.if_true_right]; refine unhide hQ ?_; clear hQ; clear Q; first | refine c2_t ?_ | refine c2_f ?_) | (with_reducible refine w_shr (by simp [getputw]; rfl) ?_)))
            exact hP _ (by simp -implicitDefEqProofs [getputw]) fun i hi => by simp -implicitDefEqProofs [getputw, hi]
          · have hadd : addH acc h c = acc := if_neg hh
            (repeat (first | with_reducible refine w_assoc ?_ | with_reducible refine w_skip ?_ | with_reducible refine w_pass ?_ | with_reducible refine w_end ?_ | with_reducible refine w_brk ?_ | with_reducible refine w_cnt ?_ | (with_reducible refine w_asg ?_; refine Ok_hide ?_; intro Q hQ; simp -implicitDefEqProofs [Ev.ite_hid Q, x_else, getputw, LIM, -List.map_map, -Bool.if_false_right, -Bool.if_false_left, -Bool.if_true_left, -Bool.if_true_right, k8, hh]; refine unhide hQ ?_; clear hQ; clear Q) | (with_reducible refine w_ret ?_; refine Ok_hide ?_; intro Q hQ; simp -implicitDefEqProofs [Ev.ite_hid Q, x_else, getputw, LIM, -List.map_map, -Bool.if_false_right, -Bool.if_false_left, -Bool.if_true_left, -Bool.if_true_right, k8, hh]; refine unhide hQ ?_; clear hQ; clear Q) | (with_reducible refine w_app ?_; refine Ok_hide ?_; intro Q hQ; simp -implicitDefEqProofs [Ev.ite_hid Q, x_else, getputw, LIM, -List.map_map, -Bool.if_false_right, -Bool.if_false_left, -Bool.if_true_left, -Bool.if_true_right, k8, hh]; refine unhide hQ ?_; clear hQ; clear Q) | (with_reducible refine w_pasg ?_; refine Ok_hide ?_; intro Q hQ; simp -implicitDefEqProofs [Ev.ite_hid Q, x_else, getputw, LIM, -List.map_map, -Bool.if_false_right, -Bool.if_false_left, -Bool.if_true_left, -Bool.if_true_right, k8, hh]; refine unhide hQ ?_; clear hQ; clear Q) | (with_reducible refine w_tasg ?_; refine Ok_hide ?_; intro Q hQ; simp -implicitDefEqProofs [Ev.ite_hid Q, x_else, getputw, LIM, -List.map_map, -Bool.if_false_right, -Bool.if_false_left, -Bool.if_true_left, -Bool.if_true_right, k8, hh]; refine unhide hQ ?_; clear hQ; clear Q) | (with_reducible refine w_asgo ?_; refine Ok_hide ?_; intro Q hQ; simp -implicitDefEqProofs [Ev.ite_hid Q, x_else, getputw, LIM, -List.map_map, -Bool.if_false_right, -Bool.if_false_left, -Bool.if_true_left, -Bool.if_true_right, k8, hh]; refine unhide hQ ?_; clear hQ; clear Q) | (with_reducible refine w_fz ?_; refine Ok_hide ?_; intro Q hQ; simp -implicitDefEqProofs [Ev.ite_hid Q, x_else, getputw, LIM, -List.map_map, -Bool.if_false_right, -Bool.if_false_left, -Bool.if_true_left, -Bool.if_true_right, k8, hh]; refine unhide hQ ?_; clear hQ; clear Q) | (with_reducible refine w_setix ?_; refine Ok_hide ?_; intro Q hQ; simp -implicitDefEqProofs [Ev.ite_hid Q, x_else, getputw, LIM, -List.map_map, -Bool.if_false_right, -Bool.if_false_left, -Bool.if_true_left, -Bool.if_true_right, k8, hh]; refine unhide hQ ?_; clear hQ; clear Q) | (with_reducible refine w_exp ?_; refine Ok_hide ?_; intro Q hQ; simp -implicitDefEqProofs [Ev.ite_hid Q, x_else, getputw, LIM, -List.map_map, -Bool.if_false_right, -Bool.if_false_left, -Bool.if_true_left, -Bool.if_true_right, k8, hh]; refine unhide hQ ?_; clear hQ; clear Q) | (with_reducible refine w_for ?_; refine Ok_hide ?_; intro Q hQ; simp -implicitDefEqProofs [Ev.ite_hid Q, x_else, getputw, LIM, -List.map_map, -Bool.if_false_right, -Bool.if_false_left, -Bool.if_true_left, -Bool.if_true_right, k8, hh]; refine unhide hQ ?_; clear hQ; clear Q) | (with_reducible refine w_ite ?_; refine Ok_hide ?_; intro Q hQ; simp -implicitDefEqProofs [Ev.ite_hid Q, x_else, getputw, LIM, -List.map_map, -Bool.if_false_right, -Bool.if_false_left, -Bool.if_true_left, -Bool.if_true_right, k8, hh]; refine unhide hQ ?_; clear hQ; clear Q; first | refine c2_t ?_ | refine c2_f ?_) | (with_reducible refine w_shr (by simp [getputw]; rfl) ?_)))
            exact hP ρ3 (by rw [hadd]; exact k4) fun i hi => rfl
        (repeat (first | with_reducible refine w_assoc ?_ | with_reducible refine w_skip ?_ | with_reducible refine w_pass ?_ | with_reducible refine w_end ?_ | with_reducible refine w_brk ?_ | with_reducible refine w_cnt ?_ | (with_reducible refine w_asg ?_; refine Ok_hide ?_; intro Q hQ; simp -implicitDefEqProofs [Ev.ite_hid Q, x_else, getputw, LIM, -List.map_map, -Bool.if_false_right, -Bool.if_false_left, -Bool.if_true_left, -Bool.if_true_right, f0, hmo]; refine unhide hQ ?_; clear hQ; clear Q) | (with_reducible refine w_ret ?_; refine Ok_hide ?_; intro Q hQ; simp -implicitDefEqProofs [Ev.ite_hid Q, x_else, getputw, LIM, -List.map_map, -Bool.if_false_right, -Bool.if_false_left, -Bool.if_true_left, -Bool.if_true_right, f0, hmo]; refine unhide hQ ?_; clear hQ; clear Q) | (with_reducible refine w_app ?_; refine Ok_hide ?_; intro Q hQ; simp -implicitDefEqProofs [Ev.ite_hid Q, x_else, getputw, LIM, -List.map_map, -Bool.if_false_right, -Bool.if_false_left, -Bool.if_true_left, -Bool.if_true_right, f0, hmo]; refine unhide hQ ?_; clear hQ; clear Q) | (with_reducible refine w_pasg ?_; refine Ok_hide ?_; intro Q hQ; simp -implicitDefEqProofs [Ev.ite_hid Q, x_else, getputw, LIM, -List.map_map, -Bool.if_false_right, -Bool.if_false_left, -Bool.if_true_left, -Bool.if_true_right, f0, hmo]; refine unhide hQ ?_; clear hQ; clear Q) | (with_reducible refine w_tasg ?_; refine Ok_hide ?_; intro Q hQ; simp -implicitDefEqProofs [Ev.ite_hid Q, x_else, getputw, LIM, -List.map_map, -Bool.if_false_right, -Bool.if_false_left, -Bool.if_true_left, -Bool.if_true_right, f0, hmo]; refine unhide hQ ?_; clear hQ; clear Q) | (with_reducible refine w_asgo ?_; refine Ok_hide ?_; intro Q hQ; simp -implicitDefEqProofs [Ev.ite_hid Q, x_else, getputw, LIM, -List.map_map, -Bool.if_false_right, -Bool.if_false_left, -Bool.if_true_left, -Bool.if_true_right, f0, hmo]; refine unhide hQ ?_; clear hQ; clear Q) | (with_reducible refine w_fz ?_; refine Ok_hide ?_; intro Q hQ; simp -implicitDefEqProofs [Ev.ite_hid Q, x_else, getputw, LIM, -List.map_map, -Bool.if_false_right, -Bool.if_false_left, -Bool.if_true_left, -Bool.if_true_right, f0, hmo]; refine unhide hQ ?_; clear hQ; clear Q) | (with_reducible refine w_setix ?_; refine Ok_hide ?_; intro Q hQ; simp -implicitDefEqProofs [Ev.ite_hid Q, x_else, getputw, LIM, -List.map_map, -Bool.if_false_right, -Bool.if_false_left, -Bool.if_true_left, -Bool.if_true_right, f0, hmo]; refine unhide hQ ?_; clear hQ; clear Q) | (with_reducible refine w_exp ?_; refine Ok_hide ?_; intro Q hQ; simp -implicitDefEqProofs [Ev.ite_hid Q, x_else, getputw, LIM, -List.map_map, -Bool.if_false_right, -Bool.if_false_left, -Bool.if_true_left, -Bool.if_true_right, f0, hmo]; refine unhide hQ ?_; clear hQ; clear Q) | (with_reducible refine w_for ?_; refine Ok_hide ?_; intro Q hQ; simp -implicitDefEqProofs [Ev.ite_hid Q, x_else, getputw, LIM, -List.map_map, -Bool.if_false_right, -Bool.if_false_left, -Bool.if_true_left, -Bool.if_true_right, f0, hmo]; refine unhide hQ ?_; clear hQ; clear Q) | (with_reducible refine w_ite ?_; refine Ok_hide ?_; intro Q hQ; simp -implicitDefEqProofs [Ev.ite_hid Q, x_else, getputw, LIM, -List.map_map, -Bool.if_false_right, -Bool.if_false_left, -Bool.if_true_left, -Bool.if_true_right, f0, hmo]; refine unhide hQ ?_; clear hQ; clear Q; first | refine c2_t ?_ | refine c2_f ?_) | (with_reducible refine w_shr (by simp [getputw]; rfl) ?_)))
        refine Forx.cons rfl ?_
        refine one (midF m 0 x) acc _ _ ht (by simp -implicitDefEqProofs [getputw]) (by simp -implicitDefEqProofs [getputw]) (by simp -implicitDefEqProofs [getputw, f4]) fun ρ4 k4 ko => ?_
        rw [Lop_nx]
        refine Forx.cons rfl ?_
        refine one (x - 1 - midF m 0 x) (addH acc (midF m 0 x) c) _ _ ht1 (by simp -implicitDefEqProofs [getputw]) (by simp -implicitDefEqProofs [getputw, ko]) (by simp -implicitDefEqProofs [getputw, k4]) fun ρ5 k5 ko5 => ?_
        rw [Lop_nx]
        refine Forx.nil ?_
        (repeat (first | with_reducible refine w_assoc ?_ | with_reducible refine w_skip ?_ | with_reducible refine w_pass ?_ | with_reducible refine w_end ?_ | with_reducible refine w_brk ?_ | with_reducible refine w_cnt ?_ | (with_reducible refine w_asg ?_; refine Ok_hide ?_; intro Q hQ; simp -implicitDefEqProofs [Ev.ite_hid Q, x_else, getputw, LIM, -List.map_map, -Bool.if_false_right, -Bool.if_false_left, -Bool.if_true_left, -Bool.if_true_right]; refine unhide hQ ?_; clear hQ; clear Q) | (with_reducible refine w_ret ?_; refine Ok_hide ?_; intro Q hQ; simp -implicitDefEqProofs [Ev.ite_hid Q, x_else, getputw, LIM, -List.map_map, -Bool.if_false_right, -Bool.if_false_left, -Bool.if_true_left, -Bool.if_true_right]; refine unhide hQ ?_; clear hQ; clear Q) | (with_reducible refine w_app ?_; refine Ok_hide ?_; intro Q hQ; simp -implicitDefEqProofs [Ev.ite_hid Q, x_else, getputw, LIM, -List.map_map, -Bool.if_false_right, -Bool.if_false_left, -Bool.if_true_left, -Bool.if_true_right]; refine unhide hQ ?_; clear hQ; clear Q) | (with_reducible refine w_pasg ?_; refine Ok_hide ?_; intro Q hQ; simp -implicitDefEqProofs [Ev.ite_hid Q, x_else, getputw, LIM, -List.map_map, -Bool.if_false_right, -Bool.if_false_left, -Bool.if_true_left, -Bool.if_true_right]; refine unhide hQ ?_; clear hQ; clear Q) | (with_reducible refine w_tasg ?_; refine Ok_hide ?_; intro Q hQ; simp -implicitDefEqProofs [Ev.ite_hid Q, x_else, getputw, LIM, -List.map_map, -Bool.if_false_right, -Bool.if_false_left, -Bool.if_true_left, -Bool.if_true_right]; refine unhide hQ ?_; clear hQ; clear Q) | (with_reducible refine w_asgo ?_; refine Ok_hide ?_; intro Q hQ; simp -implicitDefEqProofs [Ev.ite_hid Q, x_else, getputw, LIM, -List.map_map, -Bool.if_false_right, -Bool.if_false_left, -Bool.if_true_left, -Bool.if_true_right]; refine unhide hQ ?_; clear hQ; clear Q) | (with_reducible refine w_fz ?_; refine Ok_hide ?_; intro Q hQ; simp -implicitDefEqProofs [Ev.ite_hid Q, x_else, getputw, LIM, -List.map_map, -Bool.if_false_right, -Bool.if_false_left, -Bool.if_true_left, -Bool.if_true_right]; refine unhide hQ ?_; clear hQ; clear Q) | (with_reducible refine w_setix ?_; refine Ok_hide ?_; intro Q hQ; simp -implicitDefEqProofs [Ev.ite_hid Q, x_else, getputw, LIM, -List.map_map, -Bool.if_false_right, -Bool.if_false_left, -Bool.if_true_left, -Bool.if_true_right]; refine unhide hQ ?_; clear hQ; clear Q) | (with_reducible refine w_exp ?_; refine Ok_hide ?_; intro Q hQ; simp -implicitDefEqProofs [Ev.ite_hid Q, x_else, getputw, LIM, -List.map_map, -Bool.if_false_right, -Bool.if_false_left, -Bool.if_true_left, -Bool.if_true_right]; refine unhide hQ ?_; clear hQ; clear Q) | (with_reducible refine w_for ?_; refine Ok_hide ?_; intro Q hQ; simp -implicitDefEqProofs [Ev.ite_hid Q, x_else, getputw, LIM, -List.map_map, -Bool.if_false_right, -Bool.if_false_left, -Bool.if_true_left, -Bool.if_true_right]; refine unhide hQ ?_; clear hQ; clear Q) | (with_reducible refine w_ite ?_; refine Ok_hide ?_; intro Q hQ; simp -implicitDefEqProofs [Ev.ite_hid Q, x_else, getputw, LIM, -List.map_map, -Bool.if_false_right, -Bool.if_false_left, -Bool.if_true_left, -Bool.if_true_right]; refine unhide hQ ?_; clear hQ; clear Q; first | refine c2_t ?_ | refine c2_f ?_) | (with_reducible refine w_shr (by simp [getputw]; rfl) ?_)))
        exact ⟨rfl, by simp -implicitDefEqProofs [ko5, ko, getputw, f0], by simp -implicitDefEqProofs [ko5, ko, getputw, f3], by simp -implicitDefEqProofs [ko5, ko, getputw, f2], _, k5, ht2, hfold⟩
      · rintro ρ2 st2 ⟨rfl, f0, f3, f2, acc, f4, ht, hfold⟩
        rw [List.drop_length] at hfold
        have hfold : acc = stepL m l := hfold
        subst hfold
        (repeat (first | with_reducible refine w_assoc ?_ | with_reducible refine w_skip ?_ | with_reducible refine w_pass ?_ | with_reducible refine w_end ?_ | with_reducible refine w_brk ?_ | with_reducible refine w_cnt ?_ | (with_reducible refine w_asg ?_; refine Ok_hide ?_; intro Q hQ; simp -implicitDefEqProofs [Ev.ite_hid Q, x_else, getputw, LIM, -List.map_map, -Bool.if_false_right, -Bool.if_false_left, -Bool.if_true_left, -Bool.if_true_right, f4, f0, f2]; refine unhide hQ ?_; clear hQ; clear Q) | (with_reducible refine w_ret ?_; refine Ok_hide ?_; intro Q hQ; simp -implicitDefEqProofs [Ev.ite_hid Q, x_else, getputw, LIM, -List.map_map, -Bool.if_false_right, -Bool.if_false_left, -Bool.if_true_left, -Bool.if_true_right, f4, f0, f2]; refine unhide hQ ?_; clear hQ; clear Q) | (with_reducible refine w_app ?_; refine Ok_hide ?_; intro Q hQ; simp -implicitDefEqProofs [Ev.ite_hid Q, x_else, getputw, LIM, -List.map_map, -Bool.if_false_right, -Bool.if_false_left, -Bool.if_true_left, -Bool.if_true_right, f4, f0, f2]; refine unhide hQ ?_; clear hQ; clear Q) | (with_reducible refine w_pasg ?_; refine Ok_hide ?_; intro Q hQ; simp -implicitDefEqProofs [Ev.ite_hid Q, x_else, getputw, LIM, -List.map_map, -Bool.if_false_right, -Bool.if_false_left, -Bool.if_true_left, -Bool.if_true_right, f4, f0, f2]; refine unhide hQ ?_; clear hQ; clear Q) | (with_reducible refine w_tasg ?_; refine Ok_hide ?_; intro Q hQ; simp -implicitDefEqProofs [Ev.ite_hid Q, x_else, getputw, LIM, -List.map_map, -Bool.if_false_right, -Bool.if_false_left, -Bool.if_true_left, -Bool.if_true_right, f4, f0, f2]; refine unhide hQ ?_; clear hQ; clear Q) | (with_reducible refine w_asgo ?_; refine Ok_hide ?_; intro Q hQ; simp -implicitDefEqProofs [Ev.ite_hid Q, x_else, getputw, LIM, -List.map_map, -Bool.if_false_right, -Bool.if_false_left, -Bool.if_true_left, -Bool.if_true_right, f4, f0, f2]; refine unhide hQ ?_; clear hQ; clear Q) | (with_reducible refine w_fz ?_; refine Ok_hide ?_; intro Q hQ; simp -implicitDefEqProofs [Ev.ite_hid Q, x_else, getputw, LIM, -List.map_map, -Bool.if_false_right, -Bool.if_false_left, -Bool.if_true_left, -Bool.if_true_right, f4, f0, f2]; refine unhide hQ ?_; clear hQ; clear Q) | (with_reducible refine w_setix ?_; refine Ok_hide ?_; intro Q hQ; simp -implicitDefEqProofs [Ev.ite_hid Q, x_else, getputw, LIM, -List.map_map, -Bool.if_false_right, -Bool.if_false_left, -Bool.if_true_left, -Bool.if_true_right, f4, f0, f2]; refine unhide hQ ?_; clear hQ; clear Q) | (with_reducible refine w_exp ?_; refine Ok_hide ?_; intro Q hQ; simp -implicitDefEqProofs [Ev.ite_hid Q, x_else, getputw, LIM, -List.map_map, -Bool.if_false_right, -Bool.if_false_left, -Bool.if_true_left, -Bool.if_true_right, f4, f0, f2]; refine unhide hQ ?_; clear hQ; clear Q) | (with_reducible refine w_for ?_; refine Ok_hide ?_; intro Q hQ; simp -implicitDefEqProofs [Ev.ite_hid Q, x_else, getputw, LIM, -List.map_map, -Bool.if_false_right, -Bool.if_false_left, -Bool.if_true_left, -Bool.if_true_right, f4, f0, f2]; refine unhide hQ ?_; clear hQ; clear Q) | (with_reducible refine w_ite ?_; refine Ok_hide ?_; intro Q hQ; simp -implicitDefEqProofs [Ev.ite_hid Q, x_else, getputw, LIM, -List.map_map, -Bool.if_false_right, -Bool.if_false_left, -Bool.if_true_left, -Bool.if_true_right, f4, f0, f2]; refine unhide hQ ?_; clear hQ; clear Q; first | refine c2_t ?_ | refine c2_f ?_) | (with_reducible refine w_shr (by simp [getputw]; rfl) ?_)))
        refine ⟨k, by omega, rfl, by simp -implicitDefEqProofs [getputw, f0], stepL m l, done ++ [l], d + 1, T - cntL l, by simp -implicitDefEqProofs [getputw, levD], by simp -implicitDefEqProofs [getputw, f2], hl.next, by simp -implicitDefEqProofs [hdl], by omega, ?_⟩
        rw [List.append_assoc]
        exact hr
theorem sum_lev (l : Lev) : ((encD D.int D.int l).map (·.2)) = (l.map (·.2)).map D.int := by
  unfold encD
  rw [List.map_map, List.map_map]
  rfl

-- needs: levels
theorem dueL_zero : dueL 0 = [] := rfl
theorem lev_len (m : String) {S : Int} (h : 0 < S) : (levR m S).length = (dueL S).length := by rw [← cnts_dueL m h, List.length_map]
theorem due_len : ∀ (n : Nat) (a b : Int), (dueF n a b).length ≤ n
  | 0, _, _ => Nat.le_refl _
  | n + 1, a, b => by
    unfold dueF
    split
    · have := due_len n (a - imin2 a b) (2 * b)
      rw [List.length_cons]; omega
    · exact Nat.zero_le _
theorem dueL_len (S : Int) : (dueL S).length ≤ 64 := due_len 64 S 1
theorem ΓFAR : md.Γ g_FAR = .int 1000000000000000 := rfl
/-- the sum of depths -/
def dsum : Nat → List Int → Int
  | _, [] => 0
  | i, c :: r => ((i : Int) + 1) * c + dsum (i + 1) r
def sumR (S : Int) : Int := dsum 0 (dueL S)
theorem dsum_zip : ∀ (ls : List Lev) (i : Nat), ((ls.zipIdx i).map fun p => ((p.2 : Int) + 1) * cntL p.1).sum = dsum i (ls.map cntL)
  | [], _ => rfl
  | l :: ls, i => by
    rw [List.zipIdx_cons, List.map_cons, List.sum_cons, dsum_zip ls (i + 1)]
    rfl
theorem sum_reads_ok (n : Nat) {m e g a : String} (wy : WayOk m e g a) {S : Int} (h0 : 0 ≤ S) (h2 : S ≤ 1000000000000000) (st : Sto) :
    FF md.Δ md.Γ (n + 4) i_sum_reads [wayD m e g a, .int S] st = .ok (.int (sumR S), false) st := by
  refine eq_of_Ok ?_
  refine go_sum_reads ?_
  by_cases hz : 0 < S
  · have hl := lev_len m hz
    have hlv := fun st => levels_of_ok (n + 1) (m := m) (e := e) (g := g) (a := a) hz h2 st
    (repeat (first | with_reducible refine w_assoc ?_ | with_reducible refine w_skip ?_ | with_reducible refine w_pass ?_ | with_reducible refine w_end ?_ | with_reducible refine w_brk ?_ | with_reducible refine w_cnt ?_ | (with_reducible refine w_asg ?_; refine Ok_hide ?_; intro Q hQ; simp -implicitDefEqProofs [Ev.ite_hid Q, x_else, getputw, LIM, -List.map_map, -Bool.if_false_right, -Bool.if_false_left, -Bool.if_true_left, -Bool.if_true_right, need_way_ok _ wy.is, ΓFAR, need_size_ok _ h0 h2, hz, hlv]; refine unhide hQ ?_; clear hQ; clear Q) | (with_reducible refine w_ret ?_; refine Ok_hide ?_; intro Q hQ; simp -implicitDefEqProofs [Ev.ite_hid Q, x_else, getputw, LIM, -List.map_map, -Bool.if_false_right, -Bool.if_false_left, -Bool.if_true_left, -Bool.if_true_right, need_way_ok _ wy.is, ΓFAR, need_size_ok _ h0 h2, hz, hlv]; refine unhide hQ ?_; clear hQ; clear Q) | (with_reducible refine w_app ?_; refine Ok_hide ?_; intro Q hQ; simp -implicitDefEqProofs [Ev.ite_hid Q, x_else, getputw, LIM, -List.map_map, -Bool.if_false_right, -Bool.if_false_left, -Bool.if_true_left, -Bool.if_true_right, need_way_ok _ wy.is, ΓFAR, need_size_ok _ h0 h2, hz, hlv]; refine unhide hQ ?_; clear hQ; clear Q) | (with_reducible refine w_pasg ?_; refine Ok_hide ?_; intro Q hQ; simp -implicitDefEqProofs [Ev.ite_hid Q, x_else, getputw, LIM, -List.map_map, -Bool.if_false_right, -Bool.if_false_left, -Bool.if_true_left, -Bool.if_true_right, need_way_ok _ wy.is, ΓFAR, need_size_ok _ h0 h2, hz, hlv]; refine unhide hQ ?_; clear hQ; clear Q) | (with_reducible refine w_tasg ?_; refine Ok_hide ?_; intro Q hQ; simp -implicitDefEqProofs [Ev.ite_hid Q, x_else, getputw, LIM, -List.map_map, -Bool.if_false_right, -Bool.if_false_left, -Bool.if_true_left, -Bool.if_true_right, need_way_ok _ wy.is, ΓFAR, need_size_ok _ h0 h2, hz, hlv]; refine unhide hQ ?_; clear hQ; clear Q) | (with_reducible refine w_asgo ?_; refine Ok_hide ?_; intro Q hQ; simp -implicitDefEqProofs [Ev.ite_hid Q, x_else, getputw, LIM, -List.map_map, -Bool.if_false_right, -Bool.if_false_left, -Bool.if_true_left, -Bool.if_true_right, need_way_ok _ wy.is, ΓFAR, need_size_ok _ h0 h2, hz, hlv]; refine unhide hQ ?_; clear hQ; clear Q) | (with_reducible refine w_fz ?_; refine Ok_hide ?_; intro Q hQ; simp -implicitDefEqProofs [Ev.ite_hid Q, x_else, getputw, LIM, -List.map_map, -Bool.if_false_right, -Bool.if_false_left, -Bool.if_true_left, -Bool.if_true_right, need_way_ok _ wy.is, ΓFAR, need_size_ok _ h0 h2, hz, hlv]; refine unhide hQ ?_; clear hQ; clear Q) | (with_reducible refine w_setix ?_; refine Ok_hide ?_; intro Q hQ; simp -implicitDefEqProofs [Ev.ite_hid Q, x_else, getputw, LIM, -List.map_map, -Bool.if_false_right, -Bool.if_false_left, -Bool.if_true_left, -Bool.if_true_right, need_way_ok _ wy.is, ΓFAR, need_size_ok _ h0 h2, hz, hlv]; refine unhide hQ ?_; clear hQ; clear Q) | (with_reducible refine w_exp ?_; refine Ok_hide ?_; intro Q hQ; simp -implicitDefEqProofs [Ev.ite_hid Q, x_else, getputw, LIM, -List.map_map, -Bool.if_false_right, -Bool.if_false_left, -Bool.if_true_left, -Bool.if_true_right, need_way_ok _ wy.is, ΓFAR, need_size_ok _ h0 h2, hz, hlv]; refine unhide hQ ?_; clear hQ; clear Q) | (with_reducible refine w_for ?_; refine Ok_hide ?_; intro Q hQ; simp -implicitDefEqProofs [Ev.ite_hid Q, x_else, getputw, LIM, -List.map_map, -Bool.if_false_right, -Bool.if_false_left, -Bool.if_true_left, -Bool.if_true_right, need_way_ok _ wy.is, ΓFAR, need_size_ok _ h0 h2, hz, hlv]; refine unhide hQ ?_; clear hQ; clear Q) | (with_reducible refine w_ite ?_; refine Ok_hide ?_; intro Q hQ; simp -implicitDefEqProofs [Ev.ite_hid Q, x_else, getputw, LIM, -List.map_map, -Bool.if_false_right, -Bool.if_false_left, -Bool.if_true_left, -Bool.if_true_right, need_way_ok _ wy.is, ΓFAR, need_size_ok _ h0 h2, hz, hlv]; refine unhide hQ ?_; clear hQ; clear Q; first | refine c2_t ?_ | refine c2_f ?_) | (with_reducible refine w_shr (by simp [getputw]; rfl) ?_)))
    ((repeat (first | with_reducible refine w_assoc ?_ | with_reducible refine w_skip ?_ | with_reducible refine w_pass ?_)); with_reducible refine w_ret ?_; refine Ok_hide ?_; intro Q hQ; simp -implicitDefEqProofs [Ev.ite_hid Q, x_else, getputw, LIM, -List.map_map, -Bool.if_false_right, -Bool.if_false_left, -Bool.if_true_left, -Bool.if_true_right])
    have hen : enuL 0 ((levR m S).map levD) = ((levR m S).zipIdx 0).map fun p => .tup [.int (p.2 : Nat), levD p.1] := enuL_map levD _ 0
    have hlen : ((levR m S).zipIdx 0).length ≤ LIM := by
      rw [List.length_zipIdx, hl]
      have := dueL_len S
      show _ ≤ 16777216
      omega
    rw [hen, lcS_map0 (fun p => .int (((p.2 : Int) + 1) * cntL p.1)) _ _ hlen (fun p hp => ⟨_, rfl, ?_⟩)]
    · have hm : (((levR m S).zipIdx 0).map fun p => D.int (((p.2 : Int) + 1) * cntL p.1)) = (((levR m S).zipIdx 0).map fun p => ((p.2 : Int) + 1) * cntL p.1).map D.int := by rw [List.map_map]; rfl
      rw [hm]
      (simp -implicitDefEqProofs [x_else, getputw, LIM, -List.map_map, -Bool.if_false_right, -Bool.if_false_left, -Bool.if_true_left, -Bool.if_true_right])
      (refine unhide hQ ?_; clear hQ; clear Q)
      show _ ∧ _
      rw [dsum_zip, cnts_dueL m hz]
      exact ⟨rfl, rfl⟩
    · obtain ⟨l, i⟩ := p
      have hi := (List.mem_zipIdx hp).2.1
      have hlen2 := dueL_len S
      have hmul : ∀ y : Int, binD .mul (.int ((i : Int) + 1)) (.int y) = some (.int (((i : Int) + 1) * y)) := fun y => bin_mul (by rw [small_lit (by omega) (by omega)]; rfl)
      have hsum : biD .sum [.lst ((encD D.int D.int l).map (·.2))] = some (.int (cntL l)) := by rw [sum_lev]; exact bi_sum _
      (simp -implicitDefEqProofs [x_else, getputw, LIM, -List.map_map, -Bool.if_false_right, -Bool.if_false_left, -Bool.if_true_left, -Bool.if_true_right, levD, hsum, hmul])
  · have : S = 0 := by omega
    subst this
    (repeat (first | with_reducible refine w_assoc ?_ | with_reducible refine w_skip ?_ | with_reducible refine w_pass ?_ | with_reducible refine w_end ?_ | with_reducible refine w_brk ?_ | with_reducible refine w_cnt ?_ | (with_reducible refine w_asg ?_; refine Ok_hide ?_; intro Q hQ; simp -implicitDefEqProofs [Ev.ite_hid Q, x_else, getputw, LIM, -List.map_map, -Bool.if_false_right, -Bool.if_false_left, -Bool.if_true_left, -Bool.if_true_right, need_way_ok _ wy.is, ΓFAR, need_size_ok _ h0 h2]; refine unhide hQ ?_; clear hQ; clear Q) | (with_reducible refine w_ret ?_; refine Ok_hide ?_; intro Q hQ; simp -implicitDefEqProofs [Ev.ite_hid Q, x_else, getputw, LIM, -List.map_map, -Bool.if_false_right, -Bool.if_false_left, -Bool.if_true_left, -Bool.if_true_right, need_way_ok _ wy.is, ΓFAR, need_size_ok _ h0 h2]; refine unhide hQ ?_; clear hQ; clear Q) | (with_reducible refine w_app ?_; refine Ok_hide ?_; intro Q hQ; simp -implicitDefEqProofs [Ev.ite_hid Q, x_else, getputw, LIM, -List.map_map, -Bool.if_false_right, -Bool.if_false_left, -Bool.if_true_left, -Bool.if_true_right, need_way_ok _ wy.is, ΓFAR, need_size_ok _ h0 h2]; refine unhide hQ ?_; clear hQ; clear Q) | (with_reducible refine w_pasg ?_; refine Ok_hide ?_; intro Q hQ; simp -implicitDefEqProofs [Ev.ite_hid Q, x_else, getputw, LIM, -List.map_map, -Bool.if_false_right, -Bool.if_false_left, -Bool.if_true_left, -Bool.if_true_right, need_way_ok _ wy.is, ΓFAR, need_size_ok _ h0 h2]; refine unhide hQ ?_; clear hQ; clear Q) | (with_reducible refine w_tasg ?_; refine Ok_hide ?_; intro Q hQ; simp -implicitDefEqProofs [Ev.ite_hid Q, x_else, getputw, LIM, -List.map_map, -Bool.if_false_right, -Bool.if_false_left, -Bool.if_true_left, -Bool.if_true_right, need_way_ok _ wy.is, ΓFAR, need_size_ok _ h0 h2]; refine unhide hQ ?_; clear hQ; clear Q) | (with_reducible refine w_asgo ?_; refine Ok_hide ?_; intro Q hQ; simp -implicitDefEqProofs [Ev.ite_hid Q, x_else, getputw, LIM, -List.map_map, -Bool.if_false_right, -Bool.if_false_left, -Bool.if_true_left, -Bool.if_true_right, need_way_ok _ wy.is, ΓFAR, need_size_ok _ h0 h2]; refine unhide hQ ?_; clear hQ; clear Q) | (with_reducible refine w_fz ?_; refine Ok_hide ?_; intro Q hQ; simp -implicitDefEqProofs [Ev.ite_hid Q, x_else, getputw, LIM, -List.map_map, -Bool.if_false_right, -Bool.if_false_left, -Bool.if_true_left, -Bool.if_true_right, need_way_ok _ wy.is, ΓFAR, need_size_ok _ h0 h2]; refine unhide hQ ?_; clear hQ; clear Q) | (with_reducible refine w_setix ?_; refine Ok_hide ?_; intro Q hQ; simp -implicitDefEqProofs [Ev.ite_hid Q, x_else, getputw, LIM, -List.map_map, -Bool.if_false_right, -Bool.if_false_left, -Bool.if_true_left, -Bool.if_true_right, need_way_ok _ wy.is, ΓFAR, need_size_ok _ h0 h2]; refine unhide hQ ?_; clear hQ; clear Q) | (with_reducible refine w_exp ?_; refine Ok_hide ?_; intro Q hQ; simp -implicitDefEqProofs [Ev.ite_hid Q, x_else, getputw, LIM, -List.map_map, -Bool.if_false_right, -Bool.if_false_left, -Bool.if_true_left, -Bool.if_true_right, need_way_ok _ wy.is, ΓFAR, need_size_ok _ h0 h2]; refine unhide hQ ?_; clear hQ; clear Q) | (with_reducible refine w_for ?_; refine Ok_hide ?_; intro Q hQ; simp -implicitDefEqProofs [Ev.ite_hid Q, x_else, getputw, LIM, -List.map_map, -Bool.if_false_right, -Bool.if_false_left, -Bool.if_true_left, -Bool.if_true_right, need_way_ok _ wy.is, ΓFAR, need_size_ok _ h0 h2]; refine unhide hQ ?_; clear hQ; clear Q) | (with_reducible refine w_ite ?_; refine Ok_hide ?_; intro Q hQ; simp -implicitDefEqProofs [Ev.ite_hid Q, x_else, getputw, LIM, -List.map_map, -Bool.if_false_right, -Bool.if_false_left, -Bool.if_true_left, -Bool.if_true_right, need_way_ok _ wy.is, ΓFAR, need_size_ok _ h0 h2]; refine unhide hQ ?_; clear hQ; clear Q; first | refine c2_t ?_ | refine c2_f ?_) | (with_reducible refine w_shr (by simp [getputw]; rfl) ?_)))
    (repeat (first | with_reducible refine w_assoc ?_ | with_reducible refine w_skip ?_ | with_reducible refine w_pass ?_ | with_reducible refine w_end ?_ | with_reducible refine w_brk ?_ | with_reducible refine w_cnt ?_ | (with_reducible refine w_asg ?_; refine Ok_hide ?_; intro Q hQ; simp -implicitDefEqProofs [Ev.ite_hid Q, x_else, getputw, LIM, -List.map_map, -Bool.if_false_right, -Bool.if_false_left, -Bool.if_true_left, -Bool.if_true_right]; refine unhide hQ ?_; clear hQ; clear Q) | (with_reducible refine w_ret ?_; refine Ok_hide ?_; intro Q hQ; simp -implicitDefEqProofs [Ev.ite_hid Q, x_else, getputw, LIM, -List.map_map, -Bool.if_false_right, -Bool.if_false_left, -Bool.if_true_left, -Bool.if_true_right]; refine unhide hQ ?_; clear hQ; clear Q) | (with_reducible refine w_app ?_; refine Ok_hide ?_; intro Q hQ; simp -implicitDefEqProofs [Ev.ite_hid Q, x_else, getputw, LIM, -List.map_map, -Bool.if_false_right, -Bool.if_false_left, -Bool.if_true_left, -Bool.if_true_right]; refine unhide hQ ?_; clear hQ; clear Q) | (with_reducible refine w_pasg ?_; refine Ok_hide ?_; intro Q hQ; simp -implicitDefEqProofs [Ev.ite_hid Q, x_else, getputw, LIM, -List.map_map, -Bool.if_false_right, -Bool.if_false_left, -Bool.if_true_left, -Bool.if_true_right]; refine unhide hQ ?_; clear hQ; clear Q) | (with_reducible refine w_tasg ?_; refine Ok_hide ?_; intro Q hQ; simp -implicitDefEqProofs [Ev.ite_hid Q, x_else, getputw, LIM, -List.map_map, -Bool.if_false_right, -Bool.if_false_left, -Bool.if_true_left, -Bool.if_true_right]; refine unhide hQ ?_; clear hQ; clear Q) | (with_reducible refine w_asgo ?_; refine Ok_hide ?_; intro Q hQ; simp -implicitDefEqProofs [Ev.ite_hid Q, x_else, getputw, LIM, -List.map_map, -Bool.if_false_right, -Bool.if_false_left, -Bool.if_true_left, -Bool.if_true_right]; refine unhide hQ ?_; clear hQ; clear Q) | (with_reducible refine w_fz ?_; refine Ok_hide ?_; intro Q hQ; simp -implicitDefEqProofs [Ev.ite_hid Q, x_else, getputw, LIM, -List.map_map, -Bool.if_false_right, -Bool.if_false_left, -Bool.if_true_left, -Bool.if_true_right]; refine unhide hQ ?_; clear hQ; clear Q) | (with_reducible refine w_setix ?_; refine Ok_hide ?_; intro Q hQ; simp -implicitDefEqProofs [Ev.ite_hid Q, x_else, getputw, LIM, -List.map_map, -Bool.if_false_right, -Bool.if_false_left, -Bool.if_true_left, -Bool.if_true_right]; refine unhide hQ ?_; clear hQ; clear Q) | (with_reducible refine w_exp ?_; refine Ok_hide ?_; intro Q hQ; simp -implicitDefEqProofs [Ev.ite_hid Q, x_else, getputw, LIM, -List.map_map, -Bool.if_false_right, -Bool.if_false_left, -Bool.if_true_left, -Bool.if_true_right]; refine unhide hQ ?_; clear hQ; clear Q) | (with_reducible refine w_for ?_; refine Ok_hide ?_; intro Q hQ; simp -implicitDefEqProofs [Ev.ite_hid Q, x_else, getputw, LIM, -List.map_map, -Bool.if_false_right, -Bool.if_false_left, -Bool.if_true_left, -Bool.if_true_right]; refine unhide hQ ?_; clear hQ; clear Q) | (with_reducible refine w_ite ?_; refine Ok_hide ?_; intro Q hQ; simp -implicitDefEqProofs [Ev.ite_hid Q, x_else, getputw, LIM, -List.map_map, -Bool.if_false_right, -Bool.if_false_left, -Bool.if_true_left, -Bool.if_true_right]; refine unhide hQ ?_; clear hQ; clear Q; first | refine c2_t ?_ | refine c2_f ?_) | (with_reducible refine w_shr (by simp [getputw]; rfl) ?_)))
    exact ⟨rfl, rfl⟩

-- needs: source
theorem choose2 {x y : String} {d : D} (h : d ∈ [D.str (Str.ofString x), .str (Str.ofString y)]) : ∃ s, (s = x ∨ s = y) ∧ d = .str (Str.ofString s) := by
  simp at h
  rcases h with rfl | rfl
  · exact ⟨x, .inl rfl, rfl⟩
  · exact ⟨y, .inr rfl, rfl⟩
theorem choose3 {x y z : String} {d : D} (h : d ∈ [D.str (Str.ofString x), .str (Str.ofString y), .str (Str.ofString z)]) : ∃ s, (s = x ∨ s = y ∨ s = z) ∧ d = .str (Str.ofString s) := by
  simp at h
  rcases h with rfl | rfl | rfl
  · exact ⟨x, .inl rfl, rfl⟩
  · exact ⟨y, .inr (.inl rfl), rfl⟩
  · exact ⟨z, .inr (.inr rfl), rfl⟩
theorem choose4 {x y z u : String} {d : D} (h : d ∈ [D.str (Str.ofString x), .str (Str.ofString y), .str (Str.ofString z), .str (Str.ofString u)]) : ∃ s, (s = x ∨ s = y ∨ s = z ∨ s = u) ∧ d = .str (Str.ofString s) := by
  simp at h
  rcases h with rfl | rfl | rfl | rfl
  · exact ⟨x, .inl rfl, rfl⟩
  · exact ⟨y, .inr (.inl rfl), rfl⟩
  · exact ⟨z, .inr (.inr (.inl rfl)), rfl⟩
  · exact ⟨u, .inr (.inr (.inr rfl)), rfl⟩

-- needs: frame draws wones places levdo choose
def depI (m : String) (n s : Nat) : List Int := (depL m n s).map fun (d : Nat) => (d : Int)
theorem depI_len {m : String} {n s : Nat} (h : s ≤ n) : (depI m n s).length = s := by unfold depI; rw [List.length_map, depL_len n s h]
theorem depI_succ (m : String) {n s : Nat} (h : 0 < s) : depI m (n + 1) s = (depI m n (midF m 0 s).toNat).map (· + 1) ++ [1] ++ (depI m n (s - 1 - (midF m 0 s).toNat)).map (· + 1) := by
  unfold depI
  have : depL m (n + 1) s = (depL m n (midF m 0 s).toNat).map (· + 1) ++ 1 :: (depL m n (s - 1 - (midF m 0 s).toNat)).map (· + 1) := by
    conv => lhs; unfold depL
    rw [if_neg (by omega)]
  rw [this, List.map_append, List.map_cons, List.map_map, List.map_map, List.map_map, List.map_map, List.append_assoc]
  rfl
theorem add_il {xs ys : List Int} (h : xs.length + ys.length ≤ 1000) : binD .add (.lst (xs.map .int)) (.lst (ys.map .int)) = some (.lst ((xs ++ ys).map .int)) := by
  show (if (xs.map D.int).length + (ys.map D.int).length ≤ LIM then some (D.lst (xs.map D.int ++ ys.map D.int)) else none) = _
  rw [if_pos (by rw [List.length_map, List.length_map]; show _ ≤ 16777216; omega), ← List.map_append]
theorem law_depths_ok (m e g a : String) : ∀ (L n : Nat) (lo hi : Int) (st : Sto), 0 ≤ lo → lo ≤ hi → hi - lo ≤ L → L ≤ 12 → FF md.Δ md.Γ (n + L + 1) i__law_depths [wayD m e g a, .int lo, .int hi] st = .ok (.lst ((depI m L (hi - lo).toNat).map .int), true) st := by
  intro L
  induction L with
  | zero =>
    intro n lo hi st h0 h1 h2 _
    have : lo = hi := by omega
    subst this
    refine eq_of_Ok ?_
    refine go__law_depths ?_
    (repeat (first | with_reducible refine w_assoc ?_ | with_reducible refine w_skip ?_ | with_reducible refine w_pass ?_ | with_reducible refine w_end ?_ | with_reducible refine w_brk ?_ | with_reducible refine w_cnt ?_ | (with_reducible refine w_asg ?_; refine Ok_hide ?_; intro Q hQ; simp -implicitDefEqProofs [Ev.ite_hid Q, x_else, getputw, LIM, -List.map_map, -Bool.if_false_right, -Bool.if_false_left, -Bool.if_true_left, -Bool.if_true_right]; refine unhide hQ ?_; clear hQ; clear Q) | (with_reducible refine w_ret ?_; refine Ok_hide ?_; intro Q hQ; simp -implicitDefEqProofs [Ev.ite_hid Q, x_else, getputw, LIM, -List.map_map, -Bool.if_false_right, -Bool.if_false_left, -Bool.if_true_left, -Bool.if_true_right]; refine unhide hQ ?_; clear hQ; clear Q) | (with_reducible refine w_app ?_; refine Ok_hide ?_; intro Q hQ; simp -implicitDefEqProofs [Ev.ite_hid Q, x_else, getputw, LIM, -List.map_map, -Bool.if_false_right, -Bool.if_false_left, -Bool.if_true_left, -Bool.if_true_right]; refine unhide hQ ?_; clear hQ; clear Q) | (with_reducible refine w_pasg ?_; refine Ok_hide ?_; intro Q hQ; simp -implicitDefEqProofs [Ev.ite_hid Q, x_else, getputw, LIM, -List.map_map, -Bool.if_false_right, -Bool.if_false_left, -Bool.if_true_left, -Bool.if_true_right]; refine unhide hQ ?_; clear hQ; clear Q) | (with_reducible refine w_tasg ?_; refine Ok_hide ?_; intro Q hQ; simp -implicitDefEqProofs [Ev.ite_hid Q, x_else, getputw, LIM, -List.map_map, -Bool.if_false_right, -Bool.if_false_left, -Bool.if_true_left, -Bool.if_true_right]; refine unhide hQ ?_; clear hQ; clear Q) | (with_reducible refine w_asgo ?_; refine Ok_hide ?_; intro Q hQ; simp -implicitDefEqProofs [Ev.ite_hid Q, x_else, getputw, LIM, -List.map_map, -Bool.if_false_right, -Bool.if_false_left, -Bool.if_true_left, -Bool.if_true_right]; refine unhide hQ ?_; clear hQ; clear Q) | (with_reducible refine w_fz ?_; refine Ok_hide ?_; intro Q hQ; simp -implicitDefEqProofs [Ev.ite_hid Q, x_else, getputw, LIM, -List.map_map, -Bool.if_false_right, -Bool.if_false_left, -Bool.if_true_left, -Bool.if_true_right]; refine unhide hQ ?_; clear hQ; clear Q) | (with_reducible refine w_setix ?_; refine Ok_hide ?_; intro Q hQ; simp -implicitDefEqProofs [Ev.ite_hid Q, x_else, getputw, LIM, -List.map_map, -Bool.if_false_right, -Bool.if_false_left, -Bool.if_true_left, -Bool.if_true_right]; refine unhide hQ ?_; clear hQ; clear Q) | (with_reducible refine w_exp ?_; refine Ok_hide ?_; intro Q hQ; simp -implicitDefEqProofs [Ev.ite_hid Q, x_else, getputw, LIM, -List.map_map, -Bool.if_false_right, -Bool.if_false_left, -Bool.if_true_left, -Bool.if_true_right]; refine unhide hQ ?_; clear hQ; clear Q) | (with_reducible refine w_for ?_; refine Ok_hide ?_; intro Q hQ; simp -implicitDefEqProofs [Ev.ite_hid Q, x_else, getputw, LIM, -List.map_map, -Bool.if_false_right, -Bool.if_false_left, -Bool.if_true_left, -Bool.if_true_right]; refine unhide hQ ?_; clear hQ; clear Q) | (with_reducible refine w_ite ?_; refine Ok_hide ?_; intro Q hQ; simp -implicitDefEqProofs [Ev.ite_hid Q, x_else, getputw, LIM, -List.map_map, -Bool.if_false_right, -Bool.if_false_left, -Bool.if_true_left, -Bool.if_true_right]; refine unhide hQ ?_; clear hQ; clear Q; first | refine c2_t ?_ | refine c2_f ?_) | (with_reducible refine w_shr (by simp [getputw]; rfl) ?_)))
    exact ⟨rfl, rfl⟩
  | succ L ih =>
    intro n lo hi st h0 h1 h2 hL
    refine eq_of_Ok ?_
    by_cases hz : lo = hi
    · subst hz
      have : depI m (L + 1) (lo - lo).toNat = [] := by
        rw [Int.sub_self]
        rfl
      rw [this]
      refine go__law_depths ?_
      (repeat (first | with_reducible refine w_assoc ?_ | with_reducible refine w_skip ?_ | with_reducible refine w_pass ?_ | with_reducible refine w_end ?_ | with_reducible refine w_brk ?_ | with_reducible refine w_cnt ?_ | (with_reducible refine w_asg ?_; refine Ok_hide ?_; intro Q hQ; simp -implicitDefEqProofs [Ev.ite_hid Q, x_else, getputw, LIM, -List.map_map, -Bool.if_false_right, -Bool.if_false_left, -Bool.if_true_left, -Bool.if_true_right]; refine unhide hQ ?_; clear hQ; clear Q) | (with_reducible refine w_ret ?_; refine Ok_hide ?_; intro Q hQ; simp -implicitDefEqProofs [Ev.ite_hid Q, x_else, getputw, LIM, -List.map_map, -Bool.if_false_right, -Bool.if_false_left, -Bool.if_true_left, -Bool.if_true_right]; refine unhide hQ ?_; clear hQ; clear Q) | (with_reducible refine w_app ?_; refine Ok_hide ?_; intro Q hQ; simp -implicitDefEqProofs [Ev.ite_hid Q, x_else, getputw, LIM, -List.map_map, -Bool.if_false_right, -Bool.if_false_left, -Bool.if_true_left, -Bool.if_true_right]; refine unhide hQ ?_; clear hQ; clear Q) | (with_reducible refine w_pasg ?_; refine Ok_hide ?_; intro Q hQ; simp -implicitDefEqProofs [Ev.ite_hid Q, x_else, getputw, LIM, -List.map_map, -Bool.if_false_right, -Bool.if_false_left, -Bool.if_true_left, -Bool.if_true_right]; refine unhide hQ ?_; clear hQ; clear Q) | (with_reducible refine w_tasg ?_; refine Ok_hide ?_; intro Q hQ; simp -implicitDefEqProofs [Ev.ite_hid Q, x_else, getputw, LIM, -List.map_map, -Bool.if_false_right, -Bool.if_false_left, -Bool.if_true_left, -Bool.if_true_right]; refine unhide hQ ?_; clear hQ; clear Q) | (with_reducible refine w_asgo ?_; refine Ok_hide ?_; intro Q hQ; simp -implicitDefEqProofs [Ev.ite_hid Q, x_else, getputw, LIM, -List.map_map, -Bool.if_false_right, -Bool.if_false_left, -Bool.if_true_left, -Bool.if_true_right]; refine unhide hQ ?_; clear hQ; clear Q) | (with_reducible refine w_fz ?_; refine Ok_hide ?_; intro Q hQ; simp -implicitDefEqProofs [Ev.ite_hid Q, x_else, getputw, LIM, -List.map_map, -Bool.if_false_right, -Bool.if_false_left, -Bool.if_true_left, -Bool.if_true_right]; refine unhide hQ ?_; clear hQ; clear Q) | (with_reducible refine w_setix ?_; refine Ok_hide ?_; intro Q hQ; simp -implicitDefEqProofs [Ev.ite_hid Q, x_else, getputw, LIM, -List.map_map, -Bool.if_false_right, -Bool.if_false_left, -Bool.if_true_left, -Bool.if_true_right]; refine unhide hQ ?_; clear hQ; clear Q) | (with_reducible refine w_exp ?_; refine Ok_hide ?_; intro Q hQ; simp -implicitDefEqProofs [Ev.ite_hid Q, x_else, getputw, LIM, -List.map_map, -Bool.if_false_right, -Bool.if_false_left, -Bool.if_true_left, -Bool.if_true_right]; refine unhide hQ ?_; clear hQ; clear Q) | (with_reducible refine w_for ?_; refine Ok_hide ?_; intro Q hQ; simp -implicitDefEqProofs [Ev.ite_hid Q, x_else, getputw, LIM, -List.map_map, -Bool.if_false_right, -Bool.if_false_left, -Bool.if_true_left, -Bool.if_true_right]; refine unhide hQ ?_; clear hQ; clear Q) | (with_reducible refine w_ite ?_; refine Ok_hide ?_; intro Q hQ; simp -implicitDefEqProofs [Ev.ite_hid Q, x_else, getputw, LIM, -List.map_map, -Bool.if_false_right, -Bool.if_false_left, -Bool.if_true_left, -Bool.if_true_right]; refine unhide hQ ?_; clear hQ; clear Q; first | refine c2_t ?_ | refine c2_f ?_) | (with_reducible refine w_shr (by simp [getputw]; rfl) ?_)))
      exact ⟨rfl, rfl⟩
    · have hlt : lo < hi := by omega
      obtain ⟨m1, m2⟩ := midF_rng m hlt
      obtain ⟨s, hs⟩ : ∃ s : Nat, hi - lo = (s : Int) := ⟨(hi - lo).toNat, by omega⟩
      have ms := mid_shift m lo hi
      rw [hs] at ms
      have e1 : (hi - lo).toNat = s := by omega
      have hd := depI_succ m (n := L) (s := s) (by omega)
      obtain ⟨m3, m4⟩ := midF_rng m (lo := 0) (hi := (s : Int)) (by omega)
      have hl := ih n lo (midF m lo hi) st h0 m1 (by omega) (by omega)
      have hr := ih n (midF m lo hi + 1) hi st (by omega) (by omega) (by omega) (by omega)
      change FF md.Δ md.Γ (n + (L + 1)) i__law_depths [wayD m e g a, .int lo, .int (midF m lo hi)] st = _ at hl
      change FF md.Δ md.Γ (n + (L + 1)) i__law_depths [wayD m e g a, .int (midF m lo hi + 1), .int hi] st = _ at hr
      rw [show (midF m lo hi - lo).toNat = (midF m 0 (s : Int)).toNat by omega] at hl
      rw [show (hi - (midF m lo hi + 1)).toNat = s - 1 - (midF m 0 (s : Int)).toNat by omega] at hr
      have l1 : (depI m L (midF m 0 (s : Int)).toNat).length ≤ 12 := by rw [depI_len (by omega)]; omega
      have l2 : (depI m L (s - 1 - (midF m 0 (s : Int)).toNat)).length ≤ 12 := by rw [depI_len (by omega)]; omega
      rw [e1, hd]
      generalize depI m L (midF m 0 (s : Int)).toNat = X at *
      generalize depI m L (s - 1 - (midF m 0 (s : Int)).toNat) = Y at *
      have hx : ∀ ρ, lcS (FF md.Δ md.Γ (n + (L + 1))) md.Γ (.bin .add (.var 6) (.cint 1)) (.one 6) .nil ρ (X.map .int) st = .ok (.lst ((X.map (· + 1)).map .int)) st := fun ρ => by
        rw [lcS_map0 (fun x => .int (x + 1)) _ _ (by show _ ≤ 16777216; omega) (fun x hx => ⟨_, rfl, by (simp -implicitDefEqProofs [x_else, getputw, LIM, -List.map_map, -Bool.if_false_right, -Bool.if_false_left, -Bool.if_true_left, -Bool.if_true_right])⟩), List.map_map]
        rfl
      have hy : ∀ ρ, lcS (FF md.Δ md.Γ (n + (L + 1))) md.Γ (.bin .add (.var 6) (.cint 1)) (.one 6) .nil ρ (Y.map .int) st = .ok (.lst ((Y.map (· + 1)).map .int)) st := fun ρ => by
        rw [lcS_map0 (fun x => .int (x + 1)) _ _ (by show _ ≤ 16777216; omega) (fun x hx => ⟨_, rfl, by (simp -implicitDefEqProofs [x_else, getputw, LIM, -List.map_map, -Bool.if_false_right, -Bool.if_false_left, -Bool.if_true_left, -Bool.if_true_right])⟩), List.map_map]
        rfl
      have a1 : binD .add (.lst ((X.map (· + 1)).map .int)) (.lst [.int 1]) = some (.lst ((X.map (· + 1) ++ [1]).map .int)) := add_il (ys := [1]) (by rw [List.length_map, List.length_singleton]; omega)
      have a2 : binD .add (.lst ((X.map (· + 1) ++ [1]).map .int)) (.lst ((Y.map (· + 1)).map .int)) = some (.lst ((X.map (· + 1) ++ [1] ++ Y.map (· + 1)).map .int)) := add_il (by rw [List.length_append, List.length_map, List.length_map, List.length_singleton]; omega)
      generalize X.map (· + 1) ++ [1] ++ Y.map (· + 1) = W at *
      generalize X.map (· + 1) ++ [1] = W1 at *
      generalize X.map (· + 1) = X1 at *
      generalize Y.map (· + 1) = Y1 at *
      have hmid : ∀ ρ, get ρ 0 = .v (wayD m e g a) → get ρ 1 = .v (.int lo) → get ρ 2 = .v (.int hi) → evE (FF md.Δ md.Γ (n + (L + 1))) md.Γ (.ife (.cmp .eq (.ix (.var 0) (.cint 0)) (.cstr (Str.ofString "low"))) (.bin .fdiv (.bin .sub (.bin .add (.var 1) (.var 2)) (.cint 1)) (.cint 2)) (.bin .fdiv (.bin .add (.var 1) (.var 2)) (.cint 2))) ρ st = .ok (.int (midF m lo hi)) st := fun ρ q0 q1 q2 => by
        unfold midF
        by_cases z : m = "low"
        · (simp -implicitDefEqProofs [x_else, getputw, LIM, -List.map_map, -Bool.if_false_right, -Bool.if_false_left, -Bool.if_true_left, -Bool.if_true_right, q0, q1, q2, z])
        · (simp -implicitDefEqProofs [x_else, getputw, LIM, -List.map_map, -Bool.if_false_right, -Bool.if_false_left, -Bool.if_true_left, -Bool.if_true_right, q0, q1, q2, z])
      refine go__law_depths ?_
      ((repeat (first | with_reducible refine w_assoc ?_ | with_reducible refine w_skip ?_ | with_reducible refine w_pass ?_)); with_reducible refine w_ite ?_; refine Ok_hide ?_; intro Q hQ; simp -implicitDefEqProofs [Ev.ite_hid Q, x_else, getputw, LIM, -List.map_map, -Bool.if_false_right, -Bool.if_false_left, -Bool.if_true_left, -Bool.if_true_right, hz])
      (refine unhide hQ ?_; clear hQ; clear Q)
      refine c2_f ?_
      refine w_skip ?_
      refine w_asg ?_
      rw [hmid _ rfl rfl rfl, Ok_ok]
      clear hmid ms
      generalize midF m lo hi = v at *
      (repeat (first | with_reducible refine w_assoc ?_ | with_reducible refine w_skip ?_ | with_reducible refine w_pass ?_ | with_reducible refine w_end ?_ | with_reducible refine w_brk ?_ | with_reducible refine w_cnt ?_ | (with_reducible refine w_asg ?_; refine Ok_hide ?_; intro Q hQ; simp -implicitDefEqProofs [Ev.ite_hid Q, x_else, getputw, LIM, -List.map_map, -Bool.if_false_right, -Bool.if_false_left, -Bool.if_true_left, -Bool.if_true_right, hl, hr, hx, hy, a1, a2]; refine unhide hQ ?_; clear hQ; clear Q) | (with_reducible refine w_ret ?_; refine Ok_hide ?_; intro Q hQ; simp -implicitDefEqProofs [Ev.ite_hid Q, x_else, getputw, LIM, -List.map_map, -Bool.if_false_right, -Bool.if_false_left, -Bool.if_true_left, -Bool.if_true_right, hl, hr, hx, hy, a1, a2]; refine unhide hQ ?_; clear hQ; clear Q) | (with_reducible refine w_app ?_; refine Ok_hide ?_; intro Q hQ; simp -implicitDefEqProofs [Ev.ite_hid Q, x_else, getputw, LIM, -List.map_map, -Bool.if_false_right, -Bool.if_false_left, -Bool.if_true_left, -Bool.if_true_right, hl, hr, hx, hy, a1, a2]; refine unhide hQ ?_; clear hQ; clear Q) | (with_reducible refine w_pasg ?_; refine Ok_hide ?_; intro Q hQ; simp -implicitDefEqProofs [Ev.ite_hid Q, x_else, getputw, LIM, -List.map_map, -Bool.if_false_right, -Bool.if_false_left, -Bool.if_true_left, -Bool.if_true_right, hl, hr, hx, hy, a1, a2]; refine unhide hQ ?_; clear hQ; clear Q) | (with_reducible refine w_tasg ?_; refine Ok_hide ?_; intro Q hQ; simp -implicitDefEqProofs [Ev.ite_hid Q, x_else, getputw, LIM, -List.map_map, -Bool.if_false_right, -Bool.if_false_left, -Bool.if_true_left, -Bool.if_true_right, hl, hr, hx, hy, a1, a2]; refine unhide hQ ?_; clear hQ; clear Q) | (with_reducible refine w_asgo ?_; refine Ok_hide ?_; intro Q hQ; simp -implicitDefEqProofs [Ev.ite_hid Q, x_else, getputw, LIM, -List.map_map, -Bool.if_false_right, -Bool.if_false_left, -Bool.if_true_left, -Bool.if_true_right, hl, hr, hx, hy, a1, a2]; refine unhide hQ ?_; clear hQ; clear Q) | (with_reducible refine w_fz ?_; refine Ok_hide ?_; intro Q hQ; simp -implicitDefEqProofs [Ev.ite_hid Q, x_else, getputw, LIM, -List.map_map, -Bool.if_false_right, -Bool.if_false_left, -Bool.if_true_left, -Bool.if_true_right, hl, hr, hx, hy, a1, a2]; refine unhide hQ ?_; clear hQ; clear Q) | (with_reducible refine w_setix ?_; refine Ok_hide ?_; intro Q hQ; simp -implicitDefEqProofs [Ev.ite_hid Q, x_else, getputw, LIM, -List.map_map, -Bool.if_false_right, -Bool.if_false_left, -Bool.if_true_left, -Bool.if_true_right, hl, hr, hx, hy, a1, a2]; refine unhide hQ ?_; clear hQ; clear Q) | (with_reducible refine w_exp ?_; refine Ok_hide ?_; intro Q hQ; simp -implicitDefEqProofs [Ev.ite_hid Q, x_else, getputw, LIM, -List.map_map, -Bool.if_false_right, -Bool.if_false_left, -Bool.if_true_left, -Bool.if_true_right, hl, hr, hx, hy, a1, a2]; refine unhide hQ ?_; clear hQ; clear Q) | (with_reducible refine w_for ?_; refine Ok_hide ?_; intro Q hQ; simp -implicitDefEqProofs [Ev.ite_hid Q, x_else, getputw, LIM, -List.map_map, -Bool.if_false_right, -Bool.if_false_left, -Bool.if_true_left, -Bool.if_true_right, hl, hr, hx, hy, a1, a2]; refine unhide hQ ?_; clear hQ; clear Q) | (with_reducible refine w_ite ?_; refine Ok_hide ?_; intro Q hQ; simp -implicitDefEqProofs [Ev.ite_hid Q, x_else, getputw, LIM, -List.map_map, -Bool.if_false_right, -Bool.if_false_left, -Bool.if_true_left, -Bool.if_true_right, hl, hr, hx, hy, a1, a2]; refine unhide hQ ?_; clear hQ; clear Q; first | refine c2_t ?_ | refine c2_f ?_) | (with_reducible refine w_shr (by simp [getputw]; rfl) ?_)))
      exact ⟨rfl, rfl⟩
theorem rep_tab {c : Int} {s : Nat} (h1 : 1 ≤ s) (h2 : s ≤ 12) : binD .mul (.tup [.int c]) (.int (s : Int)) = some (tabD (List.replicate s c)) := by
  show (if (s : Int) = 1 ∨ (2 ≤ (s : Int) ∧ (s : Int) ≤ 1000 ∧ [D.int c].isEmpty = false ∧ [D.int c].length ≤ 1000) then some (D.tup (List.replicate (s : Int).toNat [D.int c]).flatten) else none) = _
  rw [if_pos (by
    by_cases z : s = 1
    · left; omega
    · right; exact ⟨by omega, by omega, rfl, by show 1 ≤ 1000; decide⟩), show (s : Int).toNat = s by omega]
  unfold tabD
  congr 2
  clear h1 h2
  induction s with
  | zero => rfl
  | succ s ih => rw [List.replicate_succ, List.flatten_cons, List.replicate_succ, List.map_cons, ← ih]; rfl
theorem dot_rep (c : Int) : ∀ (s : Nat) (d : List Nat), dot (List.replicate s c) d = c * dot (List.replicate s 1) d
  | 0, _ => by simp -implicitDefEqProofs [dot]
  | s + 1, [] => by simp -implicitDefEqProofs [dot]
  | s + 1, y :: d => by
    have ih := dot_rep c s d
    unfold dot at ih ⊢
    rw [List.replicate_succ, List.replicate_succ, List.zipWith_cons_cons, List.zipWith_cons_cons, List.sum_cons, List.sum_cons, ih, Int.mul_add, Int.one_mul]
theorem dot_inc : ∀ (w : List Int) (d : List Nat), dot (w.map (· + 1)) d = dot w d + dot (List.replicate w.length 1) d
  | [], _ => by simp -implicitDefEqProofs [dot]
  | x :: w, [] => by simp -implicitDefEqProofs [dot]
  | x :: w, y :: d => by
    have ih := dot_inc w d
    unfold dot at ih ⊢
    rw [List.map_cons, List.length_cons, List.replicate_succ, List.zipWith_cons_cons, List.zipWith_cons_cons, List.zipWith_cons_cons, List.sum_cons, List.sum_cons, List.sum_cons, ih, Int.add_mul]
    omega
theorem dot_zip : ∀ (w : List Int) (d : List Nat), ((w.zip (d.map fun (d : Nat) => (d : Int))).map fun p => p.1 * p.2).sum = dot w d
  | [], _ => by simp -implicitDefEqProofs [dot]
  | x :: w, [] => by simp -implicitDefEqProofs [dot]
  | x :: w, y :: d => by
    have ih := dot_zip w d
    unfold dot at ih ⊢
    rw [List.map_cons, List.zip_cons_cons, List.map_cons, List.sum_cons, ih, List.zipWith_cons_cons, List.sum_cons]
theorem sumR_bT : ∀ s ∈ List.range 13, sumR (s : Int) = bT s := by decide +kernel
theorem tree_rep {m : String} (hm : m = "low" ∨ m = "high") {c : Int} {s : Nat} (h1 : 1 ≤ s) (h2 : s ≤ 12) : treeS m (List.replicate s c) = c * bT s := by
  have hmem : m ∈ ["low", "high"] := by rcases hm with rfl | rfl <;> simp
  have h := (ones_few m hmem s (List.mem_range.mpr (by omega))).resolve_left (by omega)
  have := h.2.1
  unfold treeS at this ⊢
  rw [List.length_replicate] at this ⊢
  rw [dot_rep, this]
theorem depths_eq (m : String) {s : Nat} (h : s ≤ 12) : ((List.range s).map fun (p : Nat) => ((pathR m (s : Int) (p : Int)).1.length : Int)) = depI m s s := by
  refine List.ext_getElem? fun i => ?_
  unfold depI
  rw [List.getElem?_map, List.getElem?_map]
  by_cases hi : i < s
  · rw [List.getElem?_range hi, depL_get s 64 s (Nat.le_refl _) (by omega) i hi]
    simp -implicitDefEqProofs only [Option.map_some]
    unfold pathR
    rw [path_dep]
    simp
  · rw [List.getElem?_eq_none (by rw [List.length_range]; omega), List.getElem?_eq_none (by rw [depL_len s s (Nat.le_refl _)]; omega)]
    rfl
theorem rep_ok {c : Int} {s : Nat} (h1 : 1 ≤ s) (h2 : s ≤ 12) (c0 : 0 ≤ c) (c1 : c ≤ 1000000) : WgtOk (List.replicate s c) := ⟨fun z => by have := congrArg List.length z; rw [List.length_replicate] at this; simp at this; omega, by rw [List.length_replicate]; omega, fun x hx => by rw [(List.mem_replicate.mp hx).2]; exact ⟨c0, c1⟩⟩
theorem plainOk (n : Nat) (ns : List Int) (hn : ns.length ≤ 63) : Ok (FF md.Δ md.Γ (n + 30 + 1) i_law [.scr ns] []) fun r _ => r.1 = .bl true := by
  have p6 : binD .pow (.int 10) (.int 6) = some (.int 1000000) := rfl
  have r4 : rngD [.int 4] = some (rngL 0 1 4) := rfl
  refine go_law ?_
  refine frame 16 (n + 29) ns hn (by decide) (by decide) (by decide) _ _ rfl rfl (fun ρ st ⟨hl, g0, l, g2, hs⟩ => ?_) fun ρ st hl => ?_
  · (repeat (first | with_reducible refine w_assoc ?_ | with_reducible refine w_skip ?_ | with_reducible refine w_pass ?_ | with_reducible refine w_end ?_ | with_reducible refine w_brk ?_ | with_reducible refine w_cnt ?_ | (with_reducible refine w_asg ?_; refine Ok_hide ?_; intro Q hQ; simp -implicitDefEqProofs [Ev.ite_hid Q, x_else, getputw, LIM, -List.map_map, -Bool.if_false_right, -Bool.if_false_left, -Bool.if_true_left, -Bool.if_true_right, r4]; refine unhide hQ ?_; clear hQ; clear Q) | (with_reducible refine w_ret ?_; refine Ok_hide ?_; intro Q hQ; simp -implicitDefEqProofs [Ev.ite_hid Q, x_else, getputw, LIM, -List.map_map, -Bool.if_false_right, -Bool.if_false_left, -Bool.if_true_left, -Bool.if_true_right, r4]; refine unhide hQ ?_; clear hQ; clear Q) | (with_reducible refine w_app ?_; refine Ok_hide ?_; intro Q hQ; simp -implicitDefEqProofs [Ev.ite_hid Q, x_else, getputw, LIM, -List.map_map, -Bool.if_false_right, -Bool.if_false_left, -Bool.if_true_left, -Bool.if_true_right, r4]; refine unhide hQ ?_; clear hQ; clear Q) | (with_reducible refine w_pasg ?_; refine Ok_hide ?_; intro Q hQ; simp -implicitDefEqProofs [Ev.ite_hid Q, x_else, getputw, LIM, -List.map_map, -Bool.if_false_right, -Bool.if_false_left, -Bool.if_true_left, -Bool.if_true_right, r4]; refine unhide hQ ?_; clear hQ; clear Q) | (with_reducible refine w_tasg ?_; refine Ok_hide ?_; intro Q hQ; simp -implicitDefEqProofs [Ev.ite_hid Q, x_else, getputw, LIM, -List.map_map, -Bool.if_false_right, -Bool.if_false_left, -Bool.if_true_left, -Bool.if_true_right, r4]; refine unhide hQ ?_; clear hQ; clear Q) | (with_reducible refine w_asgo ?_; refine Ok_hide ?_; intro Q hQ; simp -implicitDefEqProofs [Ev.ite_hid Q, x_else, getputw, LIM, -List.map_map, -Bool.if_false_right, -Bool.if_false_left, -Bool.if_true_left, -Bool.if_true_right, r4]; refine unhide hQ ?_; clear hQ; clear Q) | (with_reducible refine w_fz ?_; refine Ok_hide ?_; intro Q hQ; simp -implicitDefEqProofs [Ev.ite_hid Q, x_else, getputw, LIM, -List.map_map, -Bool.if_false_right, -Bool.if_false_left, -Bool.if_true_left, -Bool.if_true_right, r4]; refine unhide hQ ?_; clear hQ; clear Q) | (with_reducible refine w_setix ?_; refine Ok_hide ?_; intro Q hQ; simp -implicitDefEqProofs [Ev.ite_hid Q, x_else, getputw, LIM, -List.map_map, -Bool.if_false_right, -Bool.if_false_left, -Bool.if_true_left, -Bool.if_true_right, r4]; refine unhide hQ ?_; clear hQ; clear Q) | (with_reducible refine w_exp ?_; refine Ok_hide ?_; intro Q hQ; simp -implicitDefEqProofs [Ev.ite_hid Q, x_else, getputw, LIM, -List.map_map, -Bool.if_false_right, -Bool.if_false_left, -Bool.if_true_left, -Bool.if_true_right, r4]; refine unhide hQ ?_; clear hQ; clear Q) | (with_reducible refine w_for ?_; refine Ok_hide ?_; intro Q hQ; simp -implicitDefEqProofs [Ev.ite_hid Q, x_else, getputw, LIM, -List.map_map, -Bool.if_false_right, -Bool.if_false_left, -Bool.if_true_left, -Bool.if_true_right, r4]; refine unhide hQ ?_; clear hQ; clear Q) | (with_reducible refine w_ite ?_; refine Ok_hide ?_; intro Q hQ; simp -implicitDefEqProofs [Ev.ite_hid Q, x_else, getputw, LIM, -List.map_map, -Bool.if_false_right, -Bool.if_false_left, -Bool.if_true_left, -Bool.if_true_right, r4]; refine unhide hQ ?_; clear hQ; clear Q; first | refine c2_t ?_ | refine c2_f ?_) | (with_reducible refine w_shr (by simp [getputw]; rfl) ?_)))
    refine Forx.rng (fun j => Inv 16 ns) ⟨hl, g0, l, g2, hs⟩ (fun i ρ st hj ⟨hl, g0, l, g2, hs⟩ => ?_) fun ρ st ⟨hl, g0, l, g2, hs⟩ => ?_
    · ((repeat (first | with_reducible refine w_assoc ?_ | with_reducible refine w_skip ?_ | with_reducible refine w_pass ?_)); with_reducible refine w_pasg ?_; refine Ok_hide ?_; intro Q hQ; simp -implicitDefEqProofs [Ev.ite_hid Q, x_else, getputw, LIM, -List.map_map, -Bool.if_false_right, -Bool.if_false_left, -Bool.if_true_left, -Bool.if_true_right, g2])
      (refine (law_way_ok _ hs).mono ?_; rintro _ s1 ⟨⟨m, e, g, a, wy, rfl⟩, hs1, -⟩; try simp -implicitDefEqProofs [Ev.ite_hid Q, x_else, getputw, LIM, -List.map_map, -Bool.if_false_right, -Bool.if_false_left, -Bool.if_true_left, -Bool.if_true_right, g2])
      (refine (law_draw_ok _ hs1 (by decide) (by decide)).mono ?_; rintro _ s2 ⟨⟨d, d0, d9, rfl⟩, hs2, -⟩; try simp -implicitDefEqProofs [Ev.ite_hid Q, x_else, getputw, LIM, -List.map_map, -Bool.if_false_right, -Bool.if_false_left, -Bool.if_true_left, -Bool.if_true_right, g2])
      (refine unhide hQ ?_; clear hQ; clear Q)
      obtain ⟨s, hsz⟩ : ∃ s : Nat, 1 + d = (s : Int) := ⟨(1 + d).toNat, by omega⟩
      rw [hsz]
      have z1 : 1 ≤ s := by omega
      have z2 : s ≤ 12 := by omega
      have hr : rngD [.int (s : Int)] = some (rngL 0 1 s) := by rw [rngD_one (by omega) (by omega)]; simp
      ((repeat (first | with_reducible refine w_assoc ?_ | with_reducible refine w_skip ?_ | with_reducible refine w_pass ?_)); with_reducible refine w_asg ?_; refine Ok_hide ?_; intro Q hQ; simp -implicitDefEqProofs [Ev.ite_hid Q, x_else, getputw, LIM, -List.map_map, -Bool.if_false_right, -Bool.if_false_left, -Bool.if_true_left, -Bool.if_true_right, g2, p6])
      (refine (law_choice_ok _ hs2 (by simp) (by simp)).mono ?_; rintro _ s3 ⟨⟨d1, hd1, rfl⟩, hs3, -⟩; try simp -implicitDefEqProofs [Ev.ite_hid Q, x_else, getputw, LIM, -List.map_map, -Bool.if_false_right, -Bool.if_false_left, -Bool.if_true_left, -Bool.if_true_right, g2])
      have hmost : ∃ most : Int, 0 < most ∧ most ≤ 1000001 ∧ (most < 100 → most ≤ 10) ∧ d1 = .int most := by
        simp at hd1
        rcases hd1 with rfl | rfl | rfl
        · exact ⟨2, by decide, by decide, by decide, rfl⟩
        · exact ⟨10, by decide, by decide, by decide, rfl⟩
        · exact ⟨1000001, by decide, by decide, by decide, rfl⟩
      obtain ⟨most, m0, m1, m2, rfl⟩ := hmost
      (refine unhide hQ ?_; clear hQ; clear Q)
      ((repeat (first | with_reducible refine w_assoc ?_ | with_reducible refine w_skip ?_ | with_reducible refine w_pass ?_)); with_reducible refine w_asg ?_; refine Ok_hide ?_; intro Q hQ; simp -implicitDefEqProofs [Ev.ite_hid Q, x_else, getputw, LIM, -List.map_map, -Bool.if_false_right, -Bool.if_false_left, -Bool.if_true_left, -Bool.if_true_right, g2, hr])
      refine (draws_ok _ (by decide) (by omega) (by simp -implicitDefEqProofs [getputw, g2]) (fun v st => by simp -implicitDefEqProofs [getputw]) hs3 m0 (by omega)).mono ?_
      rintro _ s4 ⟨w, rfl, hw1, hw2, hs4⟩
      try simp -implicitDefEqProofs [tab_of]
      (refine unhide hQ ?_; clear hQ; clear Q)
      have hwn : w ≠ [] := fun z => by rw [z] at hw1; simp at hw1; omega
      have wk : WgtOk w := ⟨hwn, by omega, fun x hx => by have := hw2 x hx; omega⟩
      have hrd := fun st => reads_of_ok (n + 26) wy wk st
      have htree : readsF m w = treeS m w := reads_tree (by omega)
      have hdep := fun st => law_depths_ok m e g a s (n + (29 - s)) 0 (s : Int) st (Int.le_refl _) (by omega) (by omega) z2
      rw [show n + (29 - s) + s + 1 = n + 29 + 1 by omega, show ((s : Int) - 0).toNat = s by omega] at hdep
      have hdl : (depI m s s).length = s := depI_len (Nat.le_refl _)
      have hdot : ((w.zip (depI m s s)).map fun p => p.1 * p.2).sum = readsF m w := by
        rw [htree]
        unfold treeS depI
        rw [hw1]
        exact dot_zip _ _
      have hzip : zipD (tabD w) (.lst ((depI m s s).map .int)) = some ((w.zip (depI m s s)).map fun p => .tup [.int p.1, .int p.2]) := by rw [← zipL_map]; rfl
      have hmz : ∀ ρ, lcS (FF md.Δ md.Γ (n + 29 + 1)) md.Γ (.bin .mul (.var 10) (.var 11)) (.many [10, 11]) .nil ρ ((w.zip (depI m s s)).map fun p => .tup [.int p.1, .int p.2]) s4 = .ok (.lst (((w.zip (depI m s s)).map fun p => p.1 * p.2).map .int)) s4 := fun ρ => by
        rw [lcS_map0 (fun p => .int (p.1 * p.2)) _ _ (by rw [List.length_zip]; show _ ≤ 16777216; omega) (fun p hp => ⟨_, rfl, ?_⟩), List.map_map]
        · rfl
        · have hx := hw2 p.1 (List.of_mem_zip (a := p.1) (b := p.2) hp).1
          have hm : binD .mul (.int p.1) (.int p.2) = some (.int (p.1 * p.2)) := bin_mul (by rw [small_lit (by omega) (by omega)]; rfl)
          simp -implicitDefEqProofs [getputw, hm]
      have hsum : biD .sum [.lst (((w.zip (depI m s s)).map fun p => p.1 * p.2).map .int)] = some (.int (readsF m w)) := by rw [bi_sum, hdot]
      have hdd : ∀ ρ2 : Rho, get ρ2 4 = .v (wayD m e g a) → get ρ2 5 = .v (.int (s : Int)) → lcS (FF md.Δ md.Γ (n + 29 + 1)) md.Γ (.call i_depth (.cons (.var 4) (.cons (.var 5) (.cons (.var 8) .nil)))) (.one 8) .nil ρ2 (rngL 0 1 s) s4 = .ok (.lst ((depI m s s).map .int)) s4 := fun ρ2 q4 q5 => by
        rw [rngL_map, lcS_map0 (fun (i : Nat) => .int ((pathR m (s : Int) (i : Int)).1.length : Int)) _ _ (by rw [List.length_range]; show _ ≤ 16777216; omega) (fun i hi => ⟨_, rfl, ?_⟩)]
        · rw [← depths_eq m z2, List.map_map]
          rfl
        · have hi := List.mem_range.mp hi
          have hc := depth_ok (n + 26) wy (size := (s : Int)) (p := (i : Int)) (by omega) (by omega) (by omega) s4
          (simp -implicitDefEqProofs [x_else, getputw, LIM, -List.map_map, -Bool.if_false_right, -Bool.if_false_left, -Bool.if_true_left, -Bool.if_true_right, q4, q5, hc, Int.zero_add])
      have hqd : eqD (.lst ((depI m s s).map .int)) (.lst ((depI m s s).map .int)) = some true := by rw [eqD_intsl]; simp
      have hsq : elems (tabD w) = some (w.map .int) := rfl
      have hoth : ∀ ρ, lcS (FF md.Δ md.Γ (n + 29 + 1)) md.Γ (.bi .min2 (.cons (.bin .pow (.cint 10) (.cint 6)) (.cons (.bin .add (.var 12) (.cint 1)) .nil))) (.one 12) .nil ρ (w.map .int) s4 = .ok (.lst ((w.map fun x => if x + 1 < 1000000 then x + 1 else 1000000).map .int)) s4 := fun ρ => by
        rw [lcS_map0 (fun x => .int (if x + 1 < 1000000 then x + 1 else 1000000)) _ _ (by show _ ≤ 16777216; omega) (fun x hx => ⟨_, rfl, by (simp -implicitDefEqProofs [x_else, getputw, LIM, -List.map_map, -Bool.if_false_right, -Bool.if_false_left, -Bool.if_true_left, -Bool.if_true_right, p6])⟩), List.map_map]
        rfl
      have hsr := fun st => sum_reads_ok (n + 26) wy (S := (s : Int)) (by omega) (by omega) st
      rw [sumR_bT s (List.mem_range.mpr (by omega))] at hsr
      -- equal weights
      have hrep1 := rep_tab (c := 1) z1 z2
      have ht1 := tree_rep wy.m (c := 1) z1 z2
      rw [Int.one_mul] at ht1
      have hb1 := best_rep (c := 1) (by decide) s z2
      rw [Int.one_mul] at hb1
      have one1 := rep_ok (c := 1) z1 z2 (by decide) (by decide)
      have hrd1 := fun st => reads_of_ok (n + 26) wy one1 st
      rw [reads_tree (by rw [List.length_replicate]; omega), ht1] at hrd1
      have hlr1 := fun st => least_reads_ok (n + 27) one1 st
      rw [hb1] at hlr1
      have hx2 : binD .mul (.lst [.int (bT s)]) (.int 2) = some (.lst [.int (bT s), .int (bT s)]) := rfl
      have hq2 : eqD (.lst [.int (bT s), .int (bT s)]) (.lst [.int (bT s), .int (bT s)]) = some true := by
        have := eqD_intsl [bT s, bT s] [bT s, bT s]
        rw [decide_eq_true rfl] at this
        exact this
      have hlw := fun st => least_reads_ok (n + 27) wk st
      have hle : ¬ readsF m w < best w := by
        have := best_tree m w
        rw [htree]
        omega
      -- one more
      obtain ⟨v, hv⟩ : ∃ v : List Int, v = w.map fun x => if x + 1 < 1000000 then x + 1 else 1000000 := ⟨_, rfl⟩
      rw [← hv] at hoth
      have vk : WgtOk v := ⟨fun z => by rw [z] at hv; have := congrArg List.length hv; rw [List.length_map] at this; simp at this; omega, by rw [hv, List.length_map]; omega, fun x hx => by
        rw [hv] at hx
        obtain ⟨y, hy, rfl⟩ := List.mem_map.mp hx
        have := hw2 y hy
        show 0 ≤ (if y + 1 < 1000000 then y + 1 else 1000000) ∧ (if y + 1 < 1000000 then y + 1 else 1000000) ≤ 1000000
        split <;> omega⟩
      have hrv := fun st => reads_of_ok (n + 26) wy vk st
      have hmore : most < 100 → readsF m v = readsF m w + bT s := fun h => by
        have := m2 h
        have e : v = w.map (· + 1) := by
          rw [hv]
          refine List.map_congr_left fun x hx => ?_
          have := hw2 x hx
          show (if x + 1 < 1000000 then x + 1 else 1000000) = x + 1
          rw [if_pos (by omega)]
        rw [e, reads_tree (by rw [List.length_map]; omega), htree]
        unfold treeS
        rw [List.length_map, dot_inc, hw1]
        have := ht1
        unfold treeS at this
        rw [List.length_replicate] at this
        rw [this]
      clear htree hdot m2
      generalize depI m s s = DI at *
      generalize bT s = B at *
      generalize List.replicate s (1 : Int) = R1 at hrep1 hrd1 hlr1 ht1 hb1 one1
      ((repeat (first | with_reducible refine w_assoc ?_ | with_reducible refine w_skip ?_ | with_reducible refine w_pass ?_)); with_reducible refine w_asg ?_; refine Ok_hide ?_; intro Q hQ; simp -implicitDefEqProofs [Ev.ite_hid Q, x_else, getputw, LIM, -List.map_map, -Bool.if_false_right, -Bool.if_false_left, -Bool.if_true_left, -Bool.if_true_right, hdep])
      (refine unhide hQ ?_; clear hQ; clear Q)
      ((repeat (first | with_reducible refine w_assoc ?_ | with_reducible refine w_skip ?_ | with_reducible refine w_pass ?_)); with_reducible refine w_ite ?_; refine Ok_hide ?_; intro Q hQ; simp -implicitDefEqProofs [Ev.ite_hid Q, x_else, getputw, LIM, -List.map_map, -Bool.if_false_right, -Bool.if_false_left, -Bool.if_true_left, -Bool.if_true_right, hrd, hzip, hmz, hsum])
      (refine unhide hQ ?_; clear hQ; clear Q)
      refine c2_f ?_
      ((repeat (first | with_reducible refine w_assoc ?_ | with_reducible refine w_skip ?_ | with_reducible refine w_pass ?_)); with_reducible refine w_ite ?_; refine Ok_hide ?_; intro Q hQ; simp -implicitDefEqProofs [Ev.ite_hid Q, x_else, getputw, LIM, -List.map_map, -Bool.if_false_right, -Bool.if_false_left, -Bool.if_true_left, -Bool.if_true_right, hr, hdd, hqd])
      (refine unhide hQ ?_; clear hQ; clear Q)
      refine c2_f ?_
      ((repeat (first | with_reducible refine w_assoc ?_ | with_reducible refine w_skip ?_ | with_reducible refine w_pass ?_)); with_reducible refine w_asg ?_; refine Ok_hide ?_; intro Q hQ; simp -implicitDefEqProofs [Ev.ite_hid Q, x_else, getputw, LIM, -List.map_map, -Bool.if_false_right, -Bool.if_false_left, -Bool.if_true_left, -Bool.if_true_right, hsq, hoth])
      try simp -implicitDefEqProofs [tab_of]
      (refine unhide hQ ?_; clear hQ; clear Q)
      ((repeat (first | with_reducible refine w_assoc ?_ | with_reducible refine w_skip ?_ | with_reducible refine w_pass ?_)); with_reducible refine w_asg ?_; refine Ok_hide ?_; intro Q hQ; simp -implicitDefEqProofs [Ev.ite_hid Q, x_else, getputw, LIM, -List.map_map, -Bool.if_false_right, -Bool.if_false_left, -Bool.if_true_left, -Bool.if_true_right, hrd, hsr])
      (refine unhide hQ ?_; clear hQ; clear Q)
      refine w_cut (fun ρ3 => ρ3.length = 16 ∧ get ρ3 0 = .v (.scr ns) ∧ get ρ3 2 = .v (.ref l) ∧ get ρ3 4 = .v (wayD m e g a) ∧ get ρ3 5 = .v (.int (s : Int)) ∧ get ρ3 7 = .v (tabD w)) ?_ ?_
      · by_cases c : most < 100
        · have hm := hmore c
          (repeat (first | with_reducible refine w_assoc ?_ | with_reducible refine w_skip ?_ | with_reducible refine w_pass ?_ | with_reducible refine w_end ?_ | with_reducible refine w_brk ?_ | with_reducible refine w_cnt ?_ | (with_reducible refine w_asg ?_; refine Ok_hide ?_; intro Q hQ; simp -implicitDefEqProofs [Ev.ite_hid Q, x_else, getputw, LIM, -List.map_map, -Bool.if_false_right, -Bool.if_false_left, -Bool.if_true_left, -Bool.if_true_right, c, hrv, hm]; refine unhide hQ ?_; clear hQ; clear Q) | (with_reducible refine w_ret ?_; refine Ok_hide ?_; intro Q hQ; simp -implicitDefEqProofs [Ev.ite_hid Q, x_else, getputw, LIM, -List.map_map, -Bool.if_false_right, -Bool.if_false_left, -Bool.if_true_left, -Bool.if_true_right, c, hrv, hm]; refine unhide hQ ?_; clear hQ; clear Q) | (with_reducible refine w_app ?_; refine Ok_hide ?_; intro Q hQ; simp -implicitDefEqProofs [Ev.ite_hid Q, x_else, getputw, LIM, -List.map_map, -Bool.if_false_right, -Bool.if_false_left, -Bool.if_true_left, -Bool.if_true_right, c, hrv, hm]; refine unhide hQ ?_; clear hQ; clear Q) | (with_reducible refine w_pasg ?_; refine Ok_hide ?_; intro Q hQ; simp -implicitDefEqProofs [Ev.ite_hid Q, x_else, getputw, LIM, -List.map_map, -Bool.if_false_right, -Bool.if_false_left, -Bool.if_true_left, -Bool.if_true_right, c, hrv, hm]; refine unhide hQ ?_; clear hQ; clear Q) | (with_reducible refine w_tasg ?_; refine Ok_hide ?_; intro Q hQ; simp -implicitDefEqProofs [Ev.ite_hid Q, x_else, getputw, LIM, -List.map_map, -Bool.if_false_right, -Bool.if_false_left, -Bool.if_true_left, -Bool.if_true_right, c, hrv, hm]; refine unhide hQ ?_; clear hQ; clear Q) | (with_reducible refine w_asgo ?_; refine Ok_hide ?_; intro Q hQ; simp -implicitDefEqProofs [Ev.ite_hid Q, x_else, getputw, LIM, -List.map_map, -Bool.if_false_right, -Bool.if_false_left, -Bool.if_true_left, -Bool.if_true_right, c, hrv, hm]; refine unhide hQ ?_; clear hQ; clear Q) | (with_reducible refine w_fz ?_; refine Ok_hide ?_; intro Q hQ; simp -implicitDefEqProofs [Ev.ite_hid Q, x_else, getputw, LIM, -List.map_map, -Bool.if_false_right, -Bool.if_false_left, -Bool.if_true_left, -Bool.if_true_right, c, hrv, hm]; refine unhide hQ ?_; clear hQ; clear Q) | (with_reducible refine w_setix ?_; refine Ok_hide ?_; intro Q hQ; simp -implicitDefEqProofs [Ev.ite_hid Q, x_else, getputw, LIM, -List.map_map, -Bool.if_false_right, -Bool.if_false_left, -Bool.if_true_left, -Bool.if_true_right, c, hrv, hm]; refine unhide hQ ?_; clear hQ; clear Q) | (with_reducible refine w_exp ?_; refine Ok_hide ?_; intro Q hQ; simp -implicitDefEqProofs [Ev.ite_hid Q, x_else, getputw, LIM, -List.map_map, -Bool.if_false_right, -Bool.if_false_left, -Bool.if_true_left, -Bool.if_true_right, c, hrv, hm]; refine unhide hQ ?_; clear hQ; clear Q) | (with_reducible refine w_for ?_; refine Ok_hide ?_; intro Q hQ; simp -implicitDefEqProofs [Ev.ite_hid Q, x_else, getputw, LIM, -List.map_map, -Bool.if_false_right, -Bool.if_false_left, -Bool.if_true_left, -Bool.if_true_right, c, hrv, hm]; refine unhide hQ ?_; clear hQ; clear Q) | (with_reducible refine w_ite ?_; refine Ok_hide ?_; intro Q hQ; simp -implicitDefEqProofs [Ev.ite_hid Q, x_else, getputw, LIM, -List.map_map, -Bool.if_false_right, -Bool.if_false_left, -Bool.if_true_left, -Bool.if_true_right, c, hrv, hm]; refine unhide hQ ?_; clear hQ; clear Q; first | refine c2_t ?_ | refine c2_f ?_) | (with_reducible refine w_shr (by simp [getputw]; rfl) ?_)))
          exact ⟨rfl, rfl, by simp -implicitDefEqProofs [len_putm, hl], by simp -implicitDefEqProofs [getputw, g0], by simp -implicitDefEqProofs [getputw, g2], by simp -implicitDefEqProofs [getputw], by simp -implicitDefEqProofs [getputw], by simp -implicitDefEqProofs [getputw]⟩
        · (repeat (first | with_reducible refine w_assoc ?_ | with_reducible refine w_skip ?_ | with_reducible refine w_pass ?_ | with_reducible refine w_end ?_ | with_reducible refine w_brk ?_ | with_reducible refine w_cnt ?_ | (with_reducible refine w_asg ?_; refine Ok_hide ?_; intro Q hQ; simp -implicitDefEqProofs [Ev.ite_hid Q, x_else, getputw, LIM, -List.map_map, -Bool.if_false_right, -Bool.if_false_left, -Bool.if_true_left, -Bool.if_true_right, c]; refine unhide hQ ?_; clear hQ; clear Q) | (with_reducible refine w_ret ?_; refine Ok_hide ?_; intro Q hQ; simp -implicitDefEqProofs [Ev.ite_hid Q, x_else, getputw, LIM, -List.map_map, -Bool.if_false_right, -Bool.if_false_left, -Bool.if_true_left, -Bool.if_true_right, c]; refine unhide hQ ?_; clear hQ; clear Q) | (with_reducible refine w_app ?_; refine Ok_hide ?_; intro Q hQ; simp -implicitDefEqProofs [Ev.ite_hid Q, x_else, getputw, LIM, -List.map_map, -Bool.if_false_right, -Bool.if_false_left, -Bool.if_true_left, -Bool.if_true_right, c]; refine unhide hQ ?_; clear hQ; clear Q) | (with_reducible refine w_pasg ?_; refine Ok_hide ?_; intro Q hQ; simp -implicitDefEqProofs [Ev.ite_hid Q, x_else, getputw, LIM, -List.map_map, -Bool.if_false_right, -Bool.if_false_left, -Bool.if_true_left, -Bool.if_true_right, c]; refine unhide hQ ?_; clear hQ; clear Q) | (with_reducible refine w_tasg ?_; refine Ok_hide ?_; intro Q hQ; simp -implicitDefEqProofs [Ev.ite_hid Q, x_else, getputw, LIM, -List.map_map, -Bool.if_false_right, -Bool.if_false_left, -Bool.if_true_left, -Bool.if_true_right, c]; refine unhide hQ ?_; clear hQ; clear Q) | (with_reducible refine w_asgo ?_; refine Ok_hide ?_; intro Q hQ; simp -implicitDefEqProofs [Ev.ite_hid Q, x_else, getputw, LIM, -List.map_map, -Bool.if_false_right, -Bool.if_false_left, -Bool.if_true_left, -Bool.if_true_right, c]; refine unhide hQ ?_; clear hQ; clear Q) | (with_reducible refine w_fz ?_; refine Ok_hide ?_; intro Q hQ; simp -implicitDefEqProofs [Ev.ite_hid Q, x_else, getputw, LIM, -List.map_map, -Bool.if_false_right, -Bool.if_false_left, -Bool.if_true_left, -Bool.if_true_right, c]; refine unhide hQ ?_; clear hQ; clear Q) | (with_reducible refine w_setix ?_; refine Ok_hide ?_; intro Q hQ; simp -implicitDefEqProofs [Ev.ite_hid Q, x_else, getputw, LIM, -List.map_map, -Bool.if_false_right, -Bool.if_false_left, -Bool.if_true_left, -Bool.if_true_right, c]; refine unhide hQ ?_; clear hQ; clear Q) | (with_reducible refine w_exp ?_; refine Ok_hide ?_; intro Q hQ; simp -implicitDefEqProofs [Ev.ite_hid Q, x_else, getputw, LIM, -List.map_map, -Bool.if_false_right, -Bool.if_false_left, -Bool.if_true_left, -Bool.if_true_right, c]; refine unhide hQ ?_; clear hQ; clear Q) | (with_reducible refine w_for ?_; refine Ok_hide ?_; intro Q hQ; simp -implicitDefEqProofs [Ev.ite_hid Q, x_else, getputw, LIM, -List.map_map, -Bool.if_false_right, -Bool.if_false_left, -Bool.if_true_left, -Bool.if_true_right, c]; refine unhide hQ ?_; clear hQ; clear Q) | (with_reducible refine w_ite ?_; refine Ok_hide ?_; intro Q hQ; simp -implicitDefEqProofs [Ev.ite_hid Q, x_else, getputw, LIM, -List.map_map, -Bool.if_false_right, -Bool.if_false_left, -Bool.if_true_left, -Bool.if_true_right, c]; refine unhide hQ ?_; clear hQ; clear Q; first | refine c2_t ?_ | refine c2_f ?_) | (with_reducible refine w_shr (by simp [getputw]; rfl) ?_)))
          exact ⟨rfl, rfl, by simp -implicitDefEqProofs [len_putm, hl], by simp -implicitDefEqProofs [getputw, g0], by simp -implicitDefEqProofs [getputw, g2], by simp -implicitDefEqProofs [getputw], by simp -implicitDefEqProofs [getputw], by simp -implicitDefEqProofs [getputw]⟩
      rintro ρ3 ⟨kl, k0, k2, k4, k5, k7⟩
      ((repeat (first | with_reducible refine w_assoc ?_ | with_reducible refine w_skip ?_ | with_reducible refine w_pass ?_)); with_reducible refine w_ite ?_; refine Ok_hide ?_; intro Q hQ; simp -implicitDefEqProofs [Ev.ite_hid Q, x_else, getputw, LIM, -List.map_map, -Bool.if_false_right, -Bool.if_false_left, -Bool.if_true_left, -Bool.if_true_right, k4, k5, hrep1, hrd1, hlr1, hsr, hx2, hq2])
      (refine unhide hQ ?_; clear hQ; clear Q)
      refine c2_f ?_
      ((repeat (first | with_reducible refine w_assoc ?_ | with_reducible refine w_skip ?_ | with_reducible refine w_pass ?_)); with_reducible refine w_asg ?_; refine Ok_hide ?_; intro Q hQ; simp -implicitDefEqProofs [Ev.ite_hid Q, x_else, getputw, LIM, -List.map_map, -Bool.if_false_right, -Bool.if_false_left, -Bool.if_true_left, -Bool.if_true_right, k2, p6])
      (refine (law_draw_ok _ hs4 (by decide) (by decide)).mono ?_; rintro _ s5 ⟨⟨q, q0, q1, rfl⟩, hs5, -⟩; try simp -implicitDefEqProofs [Ev.ite_hid Q, x_else, getputw, LIM, -List.map_map, -Bool.if_false_right, -Bool.if_false_left, -Bool.if_true_left, -Bool.if_true_right, k2])
      (refine unhide hQ ?_; clear hQ; clear Q)
      have hc := rep_ok (c := 1 + q) z1 z2 (by omega) (by omega)
      have hrdc := reads_of_ok (n + 26) wy hc s5
      rw [reads_tree (by rw [List.length_replicate]; omega), tree_rep wy.m z1 z2] at hrdc
      have hlrc := least_reads_ok (n + 27) hc s5
      rw [best_rep (by omega) s z2] at hlrc
      have hrepc := rep_tab (c := 1 + q) z1 z2
      generalize (1 + q) * bT s = C at hrdc hlrc
      generalize List.replicate s (1 + q) = R2 at hrepc hrdc hlrc hc
      ((repeat (first | with_reducible refine w_assoc ?_ | with_reducible refine w_skip ?_ | with_reducible refine w_pass ?_)); with_reducible refine w_ite ?_; refine Ok_hide ?_; intro Q hQ; simp -implicitDefEqProofs [Ev.ite_hid Q, x_else, getputw, LIM, -List.map_map, -Bool.if_false_right, -Bool.if_false_left, -Bool.if_true_left, -Bool.if_true_right, k4, k5, hrepc, hlrc, hrdc])
      (refine unhide hQ ?_; clear hQ; clear Q)
      refine c2_f ?_
      ((repeat (first | with_reducible refine w_assoc ?_ | with_reducible refine w_skip ?_ | with_reducible refine w_pass ?_)); with_reducible refine w_ite ?_; refine Ok_hide ?_; intro Q hQ; simp -implicitDefEqProofs [Ev.ite_hid Q, x_else, getputw, LIM, -List.map_map, -Bool.if_false_right, -Bool.if_false_left, -Bool.if_true_left, -Bool.if_true_right, k4, k7, hlw, hrd, hle])
      (refine unhide hQ ?_; clear hQ; clear Q)
      refine c2_f ?_
      (repeat (first | with_reducible refine w_assoc ?_ | with_reducible refine w_skip ?_ | with_reducible refine w_pass ?_ | with_reducible refine w_end ?_ | with_reducible refine w_brk ?_ | with_reducible refine w_cnt ?_ | (with_reducible refine w_asg ?_; refine Ok_hide ?_; intro Q hQ; simp -implicitDefEqProofs [Ev.ite_hid Q, x_else, getputw, LIM, -List.map_map, -Bool.if_false_right, -Bool.if_false_left, -Bool.if_true_left, -Bool.if_true_right]; refine unhide hQ ?_; clear hQ; clear Q) | (with_reducible refine w_ret ?_; refine Ok_hide ?_; intro Q hQ; simp -implicitDefEqProofs [Ev.ite_hid Q, x_else, getputw, LIM, -List.map_map, -Bool.if_false_right, -Bool.if_false_left, -Bool.if_true_left, -Bool.if_true_right]; refine unhide hQ ?_; clear hQ; clear Q) | (with_reducible refine w_app ?_; refine Ok_hide ?_; intro Q hQ; simp -implicitDefEqProofs [Ev.ite_hid Q, x_else, getputw, LIM, -List.map_map, -Bool.if_false_right, -Bool.if_false_left, -Bool.if_true_left, -Bool.if_true_right]; refine unhide hQ ?_; clear hQ; clear Q) | (with_reducible refine w_pasg ?_; refine Ok_hide ?_; intro Q hQ; simp -implicitDefEqProofs [Ev.ite_hid Q, x_else, getputw, LIM, -List.map_map, -Bool.if_false_right, -Bool.if_false_left, -Bool.if_true_left, -Bool.if_true_right]; refine unhide hQ ?_; clear hQ; clear Q) | (with_reducible refine w_tasg ?_; refine Ok_hide ?_; intro Q hQ; simp -implicitDefEqProofs [Ev.ite_hid Q, x_else, getputw, LIM, -List.map_map, -Bool.if_false_right, -Bool.if_false_left, -Bool.if_true_left, -Bool.if_true_right]; refine unhide hQ ?_; clear hQ; clear Q) | (with_reducible refine w_asgo ?_; refine Ok_hide ?_; intro Q hQ; simp -implicitDefEqProofs [Ev.ite_hid Q, x_else, getputw, LIM, -List.map_map, -Bool.if_false_right, -Bool.if_false_left, -Bool.if_true_left, -Bool.if_true_right]; refine unhide hQ ?_; clear hQ; clear Q) | (with_reducible refine w_fz ?_; refine Ok_hide ?_; intro Q hQ; simp -implicitDefEqProofs [Ev.ite_hid Q, x_else, getputw, LIM, -List.map_map, -Bool.if_false_right, -Bool.if_false_left, -Bool.if_true_left, -Bool.if_true_right]; refine unhide hQ ?_; clear hQ; clear Q) | (with_reducible refine w_setix ?_; refine Ok_hide ?_; intro Q hQ; simp -implicitDefEqProofs [Ev.ite_hid Q, x_else, getputw, LIM, -List.map_map, -Bool.if_false_right, -Bool.if_false_left, -Bool.if_true_left, -Bool.if_true_right]; refine unhide hQ ?_; clear hQ; clear Q) | (with_reducible refine w_exp ?_; refine Ok_hide ?_; intro Q hQ; simp -implicitDefEqProofs [Ev.ite_hid Q, x_else, getputw, LIM, -List.map_map, -Bool.if_false_right, -Bool.if_false_left, -Bool.if_true_left, -Bool.if_true_right]; refine unhide hQ ?_; clear hQ; clear Q) | (with_reducible refine w_for ?_; refine Ok_hide ?_; intro Q hQ; simp -implicitDefEqProofs [Ev.ite_hid Q, x_else, getputw, LIM, -List.map_map, -Bool.if_false_right, -Bool.if_false_left, -Bool.if_true_left, -Bool.if_true_right]; refine unhide hQ ?_; clear hQ; clear Q) | (with_reducible refine w_ite ?_; refine Ok_hide ?_; intro Q hQ; simp -implicitDefEqProofs [Ev.ite_hid Q, x_else, getputw, LIM, -List.map_map, -Bool.if_false_right, -Bool.if_false_left, -Bool.if_true_left, -Bool.if_true_right]; refine unhide hQ ?_; clear hQ; clear Q; first | refine c2_t ?_ | refine c2_f ?_) | (with_reducible refine w_shr (by simp [getputw]; rfl) ?_)))
      exact ⟨by simp -implicitDefEqProofs [len_putm, kl], by simp -implicitDefEqProofs [getputw, k0], l, by simp -implicitDefEqProofs [getputw, k2], hs5⟩
    · (repeat (first | with_reducible refine w_assoc ?_ | with_reducible refine w_skip ?_ | with_reducible refine w_pass ?_ | with_reducible refine w_end ?_ | with_reducible refine w_brk ?_ | with_reducible refine w_cnt ?_ | (with_reducible refine w_asg ?_; refine Ok_hide ?_; intro Q hQ; simp -implicitDefEqProofs [Ev.ite_hid Q, x_else, getputw, LIM, -List.map_map, -Bool.if_false_right, -Bool.if_false_left, -Bool.if_true_left, -Bool.if_true_right]; refine unhide hQ ?_; clear hQ; clear Q) | (with_reducible refine w_ret ?_; refine Ok_hide ?_; intro Q hQ; simp -implicitDefEqProofs [Ev.ite_hid Q, x_else, getputw, LIM, -List.map_map, -Bool.if_false_right, -Bool.if_false_left, -Bool.if_true_left, -Bool.if_true_right]; refine unhide hQ ?_; clear hQ; clear Q) | (with_reducible refine w_app ?_; refine Ok_hide ?_; intro Q hQ; simp -implicitDefEqProofs [Ev.ite_hid Q, x_else, getputw, LIM, -List.map_map, -Bool.if_false_right, -Bool.if_false_left, -Bool.if_true_left, -Bool.if_true_right]; refine unhide hQ ?_; clear hQ; clear Q) | (with_reducible refine w_pasg ?_; refine Ok_hide ?_; intro Q hQ; simp -implicitDefEqProofs [Ev.ite_hid Q, x_else, getputw, LIM, -List.map_map, -Bool.if_false_right, -Bool.if_false_left, -Bool.if_true_left, -Bool.if_true_right]; refine unhide hQ ?_; clear hQ; clear Q) | (with_reducible refine w_tasg ?_; refine Ok_hide ?_; intro Q hQ; simp -implicitDefEqProofs [Ev.ite_hid Q, x_else, getputw, LIM, -List.map_map, -Bool.if_false_right, -Bool.if_false_left, -Bool.if_true_left, -Bool.if_true_right]; refine unhide hQ ?_; clear hQ; clear Q) | (with_reducible refine w_asgo ?_; refine Ok_hide ?_; intro Q hQ; simp -implicitDefEqProofs [Ev.ite_hid Q, x_else, getputw, LIM, -List.map_map, -Bool.if_false_right, -Bool.if_false_left, -Bool.if_true_left, -Bool.if_true_right]; refine unhide hQ ?_; clear hQ; clear Q) | (with_reducible refine w_fz ?_; refine Ok_hide ?_; intro Q hQ; simp -implicitDefEqProofs [Ev.ite_hid Q, x_else, getputw, LIM, -List.map_map, -Bool.if_false_right, -Bool.if_false_left, -Bool.if_true_left, -Bool.if_true_right]; refine unhide hQ ?_; clear hQ; clear Q) | (with_reducible refine w_setix ?_; refine Ok_hide ?_; intro Q hQ; simp -implicitDefEqProofs [Ev.ite_hid Q, x_else, getputw, LIM, -List.map_map, -Bool.if_false_right, -Bool.if_false_left, -Bool.if_true_left, -Bool.if_true_right]; refine unhide hQ ?_; clear hQ; clear Q) | (with_reducible refine w_exp ?_; refine Ok_hide ?_; intro Q hQ; simp -implicitDefEqProofs [Ev.ite_hid Q, x_else, getputw, LIM, -List.map_map, -Bool.if_false_right, -Bool.if_false_left, -Bool.if_true_left, -Bool.if_true_right]; refine unhide hQ ?_; clear hQ; clear Q) | (with_reducible refine w_for ?_; refine Ok_hide ?_; intro Q hQ; simp -implicitDefEqProofs [Ev.ite_hid Q, x_else, getputw, LIM, -List.map_map, -Bool.if_false_right, -Bool.if_false_left, -Bool.if_true_left, -Bool.if_true_right]; refine unhide hQ ?_; clear hQ; clear Q) | (with_reducible refine w_ite ?_; refine Ok_hide ?_; intro Q hQ; simp -implicitDefEqProofs [Ev.ite_hid Q, x_else, getputw, LIM, -List.map_map, -Bool.if_false_right, -Bool.if_false_left, -Bool.if_true_left, -Bool.if_true_right]; refine unhide hQ ?_; clear hQ; clear Q; first | refine c2_t ?_ | refine c2_f ?_) | (with_reducible refine w_shr (by simp [getputw]; rfl) ?_)))
      exact ⟨hl, g0, l, g2, hs⟩
  · (refine okT_of ?_; (rcases ρ with _ | ⟨r0, ρ⟩; · (simp at hl)); (rcases ρ with _ | ⟨r1, ρ⟩; · (simp at hl)); (rcases ρ with _ | ⟨r2, ρ⟩; · (simp at hl)); (rcases ρ with _ | ⟨r3, ρ⟩; · (simp at hl)); (rcases ρ with _ | ⟨r4, ρ⟩; · (simp at hl)); (rcases ρ with _ | ⟨r5, ρ⟩; · (simp at hl)); (rcases ρ with _ | ⟨r6, ρ⟩; · (simp at hl)); (rcases ρ with _ | ⟨r7, ρ⟩; · (simp at hl)); (rcases ρ with _ | ⟨r8, ρ⟩; · (simp at hl)); (rcases ρ with _ | ⟨r9, ρ⟩; · (simp at hl)); (rcases ρ with _ | ⟨r10, ρ⟩; · (simp at hl)); (rcases ρ with _ | ⟨r11, ρ⟩; · (simp at hl)); (rcases ρ with _ | ⟨r12, ρ⟩; · (simp at hl)); (rcases ρ with _ | ⟨r13, ρ⟩; · (simp at hl)); (rcases ρ with _ | ⟨r14, ρ⟩; · (simp at hl)); (rcases ρ with _ | ⟨r15, ρ⟩; · (simp at hl)); (rcases ρ with _ | ⟨_, _⟩; · kernel_rfl); simp at hl)

theorem plain : ∀ ns : List Int, ns.length ≤ 63 → ∃ b st', FF md.Δ md.Γ 31 i_law [.scr ns] [] = .ok (.bl true, b) st' := fun ns hn => by
  obtain ⟨⟨r, b⟩, st', e, h⟩ := Ok.out (show Ok (FF md.Δ md.Γ 31 i_law [.scr ns] []) _ from plainOk 0 ns hn)
  have h : r = .bl true := h
  rw [h] at e
  exact ⟨b, st', e⟩
end Lw
open PySem PySem.W PySem.Calls PyProof.Rows
theorem PySem.Challenge.cw_halvelooks_k31_whole_sums_of_reads_by_we_holds : PySem.Challenge.rw_halvelooks_k31_whole_sums_of_reads_by_we.Holds := by
  w_on; o_law
  refine HandSHeadRun.head_any (r := OpenLaw.row PySem.Challenge.rw_halvelooks_k31_whole_sums_of_reads_by_we) (q := view (OpenLaw.row PySem.Challenge.rw_halvelooks_k31_whole_sums_of_reads_by_we).prog [37]) (H := _root_.Lw.hk) (ob := _root_.Lw.ob) (M := 4000) (loose := _root_.Lw.loose) (d := HandSHeadRun.topDef (OpenLaw.row PySem.Challenge.rw_halvelooks_k31_whole_sums_of_reads_by_we).prog 37) (kwd := []) _root_.Lw.ob_eq (by kernel_rfl) (fun s => by kernel_rfl) _root_.Lw.run (by kernel_rfl) (by kernel_rfl) (by kernel_rfl) (by rfl) (by first | assumption | decide +kernel) (by decide +kernel) ⟨rfl, rfl, rfl, rfl, rfl, by decide +kernel⟩ ?hw ?hc
  case hw => w_witness2
  case hc => exact Ev.law_walk (l := PySem.Challenge.rw_halvelooks_k31_whole_sums_of_reads_by_we) (n := 63) (k := 31) (f := 19) rfl (by decide) (by kernel_rfl) ⟨rfl, by decide, by decide⟩ (by rfl) (by kernel_rfl) (by rfl) _root_.Lw.ok _root_.Lw.bd _root_.Lw.plain
